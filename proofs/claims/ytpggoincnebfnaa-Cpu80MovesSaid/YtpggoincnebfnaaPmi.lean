/- Part 9 of the texts that the law needs, laid together. By program (pack.py). -/
import Derived.Test.YtpggoincnebfnaaPmg
import Derived.Test.YtpggoincnebfnaaPmh
import Derived.KernelRfl
set_option linter.unusedVariables false
set_option linter.unusedSimpArgs false
noncomputable section
namespace Go.Proofs.Ytpggoincnebfnaa
open Go Go.Ly Go.RowKit
theorem P_any {H : Heap} {p b : Nat} {m m' : Mc} {g g' : Nat → Int} {iv ov : Value} {k : Int} (h1 : H.get p = some (.cells (cellsPb b 0 m iv ov) 60)) (h2 : H.get b = some (memL g)) (hpb : p ≠ b) (hn1 : noTok iv = true) (hn2 : noTok ov = true) (hl : H.lock = 0) (hc : Ly.Clean H) (hb : H.next + 64 < big)
    (he : Ly.Ends Try.prog 13 [ptr 0] (hP m g) [0, 1] (.int .i64 k) 64 (hP m' g')) :
    LCalls Try.prog 13 [ptr p] H (fun u K => u = .int .i64 k ∧ K.lock = 0 ∧ K.next = H.next + 62 ∧ K.get p = some (.cells (cellsPb b 0 m' iv ov) 60) ∧ K.get b = some (memL g') ∧ ∀ i, i < H.next → i ≠ p → i ≠ b → K.get i = H.get i) := by
  refine LCalls.ltn fun hlt hsm => ?_
  have hnp := hlt _ _ h1
  have hnd : [p, b].Nodup := by simp [hpb]
  have hget := fun i => Heap.get_put (H := H) (o := .cells (tokAt [17, 18] 0 (cellsPb b 0 m iv ov)) 60) (Nat.lt_trans hnp hsm) i
  have hs : Sit (H.put p (.cells (tokAt [17, 18] 0 (cellsPb b 0 m iv ov)) 60)) (hP m g) [p, b] := by
    refine ⟨hl, rfl, hnd, fun i o hi => ?_⟩
    rcases i with _ | _ | i
    · simp only [hP, List.getElem?_cons_zero, Option.some.injEq] at hi; subst hi
      show (H.put p _).get p = _
      rw [hget, if_pos rfl]; rfl
    · simp only [hP, List.getElem?_cons_succ, List.getElem?_cons_zero, Option.some.injEq] at hi; subst hi
      show (H.put p _).get b = _
      rw [hget, if_neg hpb.symm, h2]; rfl
    · simp [hP] at hi
  have key : LCalls Try.prog 13 [ptr p] H _ := he.madeTok (c := cellsPb b 0 m iv ov) (t := 60) (ps := [17, 18]) (b0 := p) (L := [p, b]) (by rfl) hl h1 (by simp) hs hb hc (by rfl) (by rfl) (by rfl) (by
    intro o ho x hx
    simp only [hP, List.mem_cons, List.not_mem_nil, or_false] at ho
    rcases ho with rfl | rfl <;> (simp only [Option.some.injEq] at hx; subst hx)
    · refine ⟨rfl, ?_⟩
      show noTokL (cellsPb b 0 m' iv ov) = true
      rw [noP, hn1, hn2]; rfl
    · exact ⟨rfl, rfl⟩)
  refine key.mono ?_
  rintro u K ⟨rfl, hM⟩
  exact ⟨rfl, hM.lock, by rw [hM.next]; rfl, hM.now 0 0 _ rfl rfl, hM.now 1 1 _ rfl rfl, fun i hi hp hb => hM.old i hi (by simp [hp, hb])⟩
def takeI {β : Type} (k : IntKind) (cs : List Value) (f : Int → List Value → Option β) : Option β :=
  match cs with
  | .int k' n :: r => bif kbeq k' k then f n r else none
  | _ => none
def takeB {β : Type} (cs : List Value) (f : Bool → List Value → Option β) : Option β :=
  match cs with
  | .bool n :: r => f n r
  | _ => none
theorem takeI_some {β : Type} {k : IntKind} {cs : List Value} {f : Int → List Value → Option β} {x : β} (h : takeI k cs f = some x) : ∃ n r, cs = .int k n :: r ∧ f n r = some x := by
  unfold takeI at h
  split at h
  · rename_i k' n r
    cases hk : kbeq k' k with
    | false => rw [hk] at h; cases h
    | true => rw [hk] at h; rw [kbeq_eq hk]; exact ⟨n, r, rfl, h⟩
  · cases h
theorem takeB_some {β : Type} {cs : List Value} {f : Bool → List Value → Option β} {x : β} (h : takeB cs f = some x) : ∃ n r, cs = .bool n :: r ∧ f n r = some x := by
  unfold takeB at h
  split at h
  · exact ⟨_, _, rfl, h⟩
  · cases h
def takeE (m : Mc) (z : Int) (cs : List Value) : Option (Mc × Value × Value × Nat) :=
  match cs with
  | [i, o, .slice (some ⟨b, 0, none⟩) n c] => bif (z == 0) && (Nat.beq n 65536 && Nat.beq c 18446744073709551616) then some (m, i, o, b) else none
  | _ => none
theorem takeE_some {m : Mc} {z : Int} {cs : List Value} {x : Mc × Value × Value × Nat} (h : takeE m z cs = some x) : z = 0 ∧ x.1 = m ∧ cs = [x.2.1, x.2.2.1, sl x.2.2.2 65536] := by
  unfold takeE at h
  split at h
  · rename_i i o b n c
    cases hz : ((z == 0) && (Nat.beq n 65536 && Nat.beq c 18446744073709551616)) with
    | false => rw [hz] at h; cases h
    | true =>
      rw [hz] at h
      simp only [cond_true, Option.some.injEq] at h
      subst h
      simp only [Bool.and_eq_true, beq_iff_eq] at hz
      obtain ⟨h1, h2, h3⟩ := hz
      have h2 := Nat.eq_of_beq_eq_true h2
      have h3 := Nat.eq_of_beq_eq_true h3
      subst h2 h3
      exact ⟨h1, rfl, rfl⟩
  · cases h
def asM (cs : List Value) : Option (Mc × Value × Value × Nat) := takeI .u8 cs fun r0 cs => takeI .u8 cs fun r1 cs => takeI .u8 cs fun r2 cs => takeI .u8 cs fun r3 cs => takeI .u8 cs fun r4 cs => takeI .u8 cs fun r5 cs => takeI .u8 cs fun z cs => takeI .u8 cs fun r7 cs => takeB cs fun fs cs => takeB cs fun fz cs => takeB cs fun fx cs => takeB cs fun fp cs => takeB cs fun fc cs => takeI .u16 cs fun sp cs => takeI .u16 cs fun pc cs => takeB cs fun ie cs => takeB cs fun halt cs => takeE ⟨r0, r1, r2, r3, r4, r5, r7, fs, fz, fx, fp, fc, sp, pc, ie, halt⟩ z cs
theorem asM_some {cs : List Value} {m : Mc} {i o : Value} {b : Nat} (h : asM cs = some (m, i, o, b)) : cs = cellsPb b 0 m i o := by
  unfold asM at h
  obtain ⟨a0, c0, e0, h0⟩ := takeI_some h
  clear h
  subst e0
  obtain ⟨a1, c1, e1, h1⟩ := takeI_some h0
  clear h0
  subst e1
  obtain ⟨a2, c2, e2, h2⟩ := takeI_some h1
  clear h1
  subst e2
  obtain ⟨a3, c3, e3, h3⟩ := takeI_some h2
  clear h2
  subst e3
  obtain ⟨a4, c4, e4, h4⟩ := takeI_some h3
  clear h3
  subst e4
  obtain ⟨a5, c5, e5, h5⟩ := takeI_some h4
  clear h4
  subst e5
  obtain ⟨a6, c6, e6, h6⟩ := takeI_some h5
  clear h5
  subst e6
  obtain ⟨a7, c7, e7, h7⟩ := takeI_some h6
  clear h6
  subst e7
  obtain ⟨a8, c8, e8, h8⟩ := takeB_some h7
  clear h7
  subst e8
  obtain ⟨a9, c9, e9, h9⟩ := takeB_some h8
  clear h8
  subst e9
  obtain ⟨a10, c10, e10, h10⟩ := takeB_some h9
  clear h9
  subst e10
  obtain ⟨a11, c11, e11, h11⟩ := takeB_some h10
  clear h10
  subst e11
  obtain ⟨a12, c12, e12, h12⟩ := takeB_some h11
  clear h11
  subst e12
  obtain ⟨a13, c13, e13, h13⟩ := takeI_some h12
  clear h12
  subst e13
  obtain ⟨a14, c14, e14, h14⟩ := takeI_some h13
  clear h13
  subst e14
  obtain ⟨a15, c15, e15, h15⟩ := takeB_some h14
  clear h14
  subst e15
  obtain ⟨a16, c16, e16, h16⟩ := takeB_some h15
  clear h15
  subst e16
  obtain ⟨rfl, h1, rfl⟩ := takeE_some h16
  simp only at h1
  subst h1
  rfl
def IsMem (G : Nat → Nat → Value) : Prop := ∀ e, e < 65536 → G e 0 = .int .u8 (intV (G e 0))
structure Ent where
  op : Int
  grd : Mc → (Nat → Int) → Bool
  mf : Mc → (Nat → Int) → Mc
  gf : Mc → (Nat → Int) → Nat → Int
def Ent.Ok (e : Ent) : Prop := ∀ m g, m.halt = false → inw m.pc = true → g (ix m.pc) = e.op → e.grd m g = true → Ly.Ends Try.prog 13 [ptr 0] (hP m g) [0, 1] (.int .i64 0) 64 (hP (e.mf m g) (e.gf m g))
def afterE (H : Heap) (p b : Nat) (m' : Mc) (g' : Nat → Int) (i o : Value) : Heap := { m := (H.m.set p (some (.cells (cellsPb b 0 m' i o) 60))).set b (some (memL g')), next := H.next + 62, lock := 0 }
def entE (H : Heap) (p b : Nat) (m : Mc) (g : Nat → Int) (i o : Value) : List Ent → ER
  | [] => .no
  | e :: l => .tst (g (ix m.pc) == e.op) (.tst (e.grd m g) (.mem (.int .i64 0) (afterE H p b (e.mf m g) (e.gf m g) i o)) .no) (entE H p b m g i o l)
def stepB (l : List Ent) (H : Heap) (p : Nat) (m : Mc) (i o : Value) (b : Nat) : ER :=
  match H.get b with
  | some (.fn k G n t) =>
    bif (Nat.beq k 1 && (Nat.beq n 65536 && Nat.beq t 5)) && ((!(Nat.beq p b) && (noTok i && noTok o)) && (Nat.beq H.lock 0 && (cleanB H H.next && Nat.blt (H.next + 64) 2147483000))) then
      .tst m.halt .no (.tst (inw m.pc) (.tst (cdec (IsMem G)) (entE H p b m (fun e => intV (G e 0)) i o l) .no) .no)
    else .no
  | _ => .no
def stepE (l : List Ent) (H : Heap) (args : List Value) : ER :=
  match args with
  | [.pointer (some ⟨p, 0, none⟩)] =>
    (match H.get p with
    | some (.cells cs t) => bif Nat.beq t 60 then (match asM cs with
      | some (m, i, o, b) => stepB l H p m i o b
      | none => .no) else .no
    | _ => .no)
  | _ => .no
theorem HGood_mem {f : Nat} {args : List Value} {H K : Heap} {v : Value} (h : LCalls Try.prog f args H (fun u K' => u = v ∧ K' = K)) : HGood Try.prog f args H (.mem v K) := h
theorem entE_good {H : Heap} {p b : Nat} {m : Mc} {g : Nat → Int} {i o : Value} {x : LO} (h1 : H.get p = some (.cells (cellsPb b 0 m i o) 60)) (h2 : H.get b = some x) (hx : LOeq x (memL g)) (hpb : p ≠ b) (hn1 : noTok i = true) (hn2 : noTok o = true) (hl : H.lock = 0) (hcb : cleanB H H.next = true) (hb : H.next + 64 < big) (hh : m.halt = false) (hpc : inw m.pc = true) :
    ∀ (l : List Ent), (∀ e ∈ l, e.Ok) → HGood Try.prog 13 [ptr p] H (entE H p b m g i o l)
  | [], _ => trivial
  | e :: l, hok => by
    refine ⟨fun h3 => ⟨fun h4 => HGood_mem ?_, fun _ => trivial⟩, fun _ => entE_good h1 h2 hx hpb hn1 hn2 hl hcb hb hh hpc l fun e' he' => hok e' (by simp [he'])⟩
    simp only [beq_iff_eq] at h3
    refine LCalls.ltn fun hlt hsm => ?_
    have hp := Nat.lt_trans (hlt _ _ h1) hsm
    have hb' := Nat.lt_trans (hlt _ _ h2) hsm
    have hc : Ly.Clean H := fun i o ho => cleanB_spec H.next hcb i (hlt i o ho) o ho
    have hget := fun i => Heap.get_put (H := H) (o := memL g) hb' i
    have hw : WeakH H (H.put b (memL g)) := ⟨rfl, rfl, fun j y hy => by
      rw [hget] at hy
      split at hy
      · rename_i hj; subst hj; simp only [Option.some.injEq] at hy; subst hy; exact ⟨_, h2, .inr hx⟩
      · exact ⟨y, hy, OW.refl _⟩⟩
    have hcK : Ly.Clean (H.put b (memL g)) := by
      intro j y hy
      rw [hget] at hy
      split at hy
      · simp only [Option.some.injEq] at hy; subst hy; rfl
      · exact hc j y hy
    refine (LCalls.weak hw (P_any (H := H.put b (memL g)) (by rw [hget, if_neg hpb]; exact h1) (by rw [hget, if_pos rfl]) hpb hn1 hn2 hl hcK hb (hok e (by simp) m g hh hpc h3 h4))).weakQ ?_
    rintro v K ⟨rfl, k1, k2, k3, k4, k5⟩
    refine ⟨_, ⟨rfl, rfl⟩, by rw [k2]; rfl, k1.symm, fun j y hy => ?_⟩
    have e1 : (afterE H p b (e.mf m g) (e.gf m g) i o).get j = if j = b then some (memL (e.gf m g)) else if j = p then some (.cells (cellsPb b 0 (e.mf m g) i o) 60) else H.get j := by
      show ((H.m.set p _).set b _).get j = _
      rw [Tr.get_set _ _ _ hb', Tr.get_set _ _ _ hp]; rfl
    rw [e1] at hy
    split at hy
    · rename_i hj; subst hj; simp only [Option.some.injEq] at hy; subst hy; exact ⟨_, k4, OW.refl _⟩
    · rename_i hj
      split at hy
      · rename_i hj2; subst hj2; simp only [Option.some.injEq] at hy; subst hy; exact ⟨_, k3, OW.refl _⟩
      · rename_i hj2
        refine ⟨y, ?_, OW.refl _⟩
        rw [k5 j (hlt _ _ hy) hj2 hj, hget, if_neg hj]; exact hy
theorem stepE_good {l : List Ent} (hok : ∀ e ∈ l, e.Ok) (H : Heap) (args : List Value) : HGood Try.prog 13 args H (stepE l H args) := by
  unfold stepE
  split
  · rename_i p
    split
    · rename_i cs t hcs
      cases ht : Nat.beq t 60 with
      | false => exact trivial
      | true =>
        have ht := Nat.eq_of_beq_eq_true ht
        subst ht
        simp only [cond_true]
        split
        · rename_i m i o b hm
          have e0 := asM_some hm
          subst e0
          unfold stepB
          split
          · rename_i k G n t hb
            cases hg : ((Nat.beq k 1 && (Nat.beq n 65536 && Nat.beq t 5)) && ((!(Nat.beq p b) && (noTok i && noTok o)) && (Nat.beq H.lock 0 && (cleanB H H.next && Nat.blt (H.next + 64) 2147483000)))) with
            | false => exact trivial
            | true =>
              simp only [Bool.and_eq_true, Bool.not_eq_true', Nat.blt_eq] at hg
              obtain ⟨⟨g1, g2, g3⟩, ⟨g4, g5, g6⟩, g7, g8, g9⟩ := hg
              have g1 := Nat.eq_of_beq_eq_true g1
              have g2 := Nat.eq_of_beq_eq_true g2
              have g3 := Nat.eq_of_beq_eq_true g3
              have g7 := Nat.eq_of_beq_eq_true g7
              subst g1 g2 g3
              simp only [cond_true]
              refine ⟨fun _ => trivial, fun hh => ⟨fun hpc => ⟨fun hM => ?_, fun _ => trivial⟩, fun _ => trivial⟩⟩
              have hM := cdec_of hM
              have hpb : p ≠ b := by intro e; rw [e, Nat.beq_refl] at g4; cases g4
              have eq1 : LOeq (.fn 1 G 65536 5) (memL fun e => intV (G e 0)) := .inr ⟨1, _, _, _, _, rfl, rfl, fun e j he hj => by
                obtain rfl : j = 0 := by omega
                exact hM e he⟩
              exact entE_good hcs hb eq1 hpb g5 g6 g7 g8 g9 hh hpc l hok
          · exact trivial
        · exact trivial
    · exact trivial
  · exact trivial
end Go.Proofs.Ytpggoincnebfnaa
namespace Go.Proofs.Ytpggoincnebfnaa
open Go Go.Ly Go.RowKit
theorem P_endsE {m m' mr : Mc} {g g' : Nat → Int} {b0 : Int} {nP : Nat} {tP' : List (Bool × Bool)} {pP : Path} {o : LO} (hpc : inw m.pc = true) (hh : m.halt = false) (h0 : g (ix m.pc) = b0)
    (hp : endsAt [0, 1] (Ly.run ctx3 3000 pP (sP m g b0 (g (at1 m.pc 1)) (g (at1 m.pc 2)))) = some (tP', .int .i64 0, nP, hPm mr o)) (h1 : trusted tP') (h3 : nP ≤ 64) (hm : mr = m') (ho : LOeq o (memL g')) :
    Ly.Ends Try.prog 13 [ptr 0] (hP m g) [0, 1] (.int .i64 0) 64 (hP m' g') := by
  subst hm
  have hpc' : B16 m.pc := (inw_iff _).1 hpc
  have e1 := MWp.ends ctx3_ok 3000 pP hp h1
  have h0' : g (0 + m.pc.toNat * 1) = b0 := h0
  have htr : trusted (tP m) := by
    simp only [tP, trusted, hh, idx_of hpc', blt_of hpc', idx_of (wrap16 _), at1, blt_of (wrap16 _), and_self]
  have e2 : Ly.Ends Try.prog 13 [ptr 0] (hP m g) [0, 1] (.int .i64 0) nP (hPm mr o) := by
    refine LCalls_of ctx3_ok gP13 (by kernel_rfl) (MWp.halted (haltAt_ok ctx3_ok 27) [0, 53] 300 pathP (juncP m g) htr ?_)
    rw [h0']; exact e1
  exact (e2.eqv (by kernel_rfl) (eP ho)).grow h3 (by unfold big; omega)
theorem inbB (a : Int) : inb a = true ↔ B8 a := inb_iff a
theorem inwB (a : Int) : inw a = true ↔ B16 a := inw_iff a
@[simp] theorem pairlo {h l : Int} (hl : B8 l) : w8 (256 * h + l) = l := by unfold B8 at hl; rw [w8e]; omega
@[simp] theorem pairhi {h l : Int} (hh : B8 h) (hl : B8 l) : w8 ((256 * h + l).fdiv 256) = h := by
  unfold B8 at hh hl
  have : (256 * h + l).fdiv 256 = (256 * h + l) / 256 := Int.fdiv_eq_ediv_of_nonneg _ (by omega)
  rw [w8e, this]; omega
@[simp] theorem wordlo (n : Int) : w8 (w16 n) = n % 256 := by rw [w8e, w16e]; omega
@[simp] theorem wordhi (n : Int) : w8 ((w16 n).fdiv 256) = n % 65536 / 256 := by
  have : (w16 n).fdiv 256 = (w16 n) / 256 := Int.fdiv_eq_ediv_of_nonneg _ (by omega)
  rw [w8e, this, w16e]; omega
def Emov00 : Ent := ⟨64, fun m g => true, fun m g => { m with pc := w16 (m.pc + 1) }, fun m g => g⟩
theorem Emov00_ok : Emov00.Ok := by
  intro m g hh hpc h0 hg
  have hpc' := (inw_iff _).1 hpc
  have h0 : g (ix m.pc) = 64 := h0
  refine P_endsE hpc hh h0 (p40_0 m g _ _) (by simp [*]) (by decide) ?_ (.inl rfl)
  simp [Emov00, *]
def Emov01 : Ent := ⟨65, fun m g => true, fun m g => { m with pc := w16 (m.pc + 1), r0 := m.r1 }, fun m g => g⟩
theorem Emov01_ok : Emov01.Ok := by
  intro m g hh hpc h0 hg
  have hpc' := (inw_iff _).1 hpc
  have h0 : g (ix m.pc) = 65 := h0
  refine P_endsE hpc hh h0 (p41_0 m g _ _) (by simp [*]) (by decide) ?_ (.inl rfl)
  simp [Emov01, *]
def Emov02 : Ent := ⟨66, fun m g => true, fun m g => { m with pc := w16 (m.pc + 1), r0 := m.r2 }, fun m g => g⟩
theorem Emov02_ok : Emov02.Ok := by
  intro m g hh hpc h0 hg
  have hpc' := (inw_iff _).1 hpc
  have h0 : g (ix m.pc) = 66 := h0
  refine P_endsE hpc hh h0 (p42_0 m g _ _) (by simp [*]) (by decide) ?_ (.inl rfl)
  simp [Emov02, *]
def Emov03 : Ent := ⟨67, fun m g => true, fun m g => { m with pc := w16 (m.pc + 1), r0 := m.r3 }, fun m g => g⟩
theorem Emov03_ok : Emov03.Ok := by
  intro m g hh hpc h0 hg
  have hpc' := (inw_iff _).1 hpc
  have h0 : g (ix m.pc) = 67 := h0
  refine P_endsE hpc hh h0 (p43_0 m g _ _) (by simp [*]) (by decide) ?_ (.inl rfl)
  simp [Emov03, *]
def Emov04 : Ent := ⟨68, fun m g => true, fun m g => { m with pc := w16 (m.pc + 1), r0 := m.r4 }, fun m g => g⟩
theorem Emov04_ok : Emov04.Ok := by
  intro m g hh hpc h0 hg
  have hpc' := (inw_iff _).1 hpc
  have h0 : g (ix m.pc) = 68 := h0
  refine P_endsE hpc hh h0 (p44_0 m g _ _) (by simp [*]) (by decide) ?_ (.inl rfl)
  simp [Emov04, *]
def Emov05 : Ent := ⟨69, fun m g => true, fun m g => { m with pc := w16 (m.pc + 1), r0 := m.r5 }, fun m g => g⟩
theorem Emov05_ok : Emov05.Ok := by
  intro m g hh hpc h0 hg
  have hpc' := (inw_iff _).1 hpc
  have h0 : g (ix m.pc) = 69 := h0
  refine P_endsE hpc hh h0 (p45_0 m g _ _) (by simp [*]) (by decide) ?_ (.inl rfl)
  simp [Emov05, *]
def Emov07 : Ent := ⟨71, fun m g => true, fun m g => { m with pc := w16 (m.pc + 1), r0 := m.r7 }, fun m g => g⟩
theorem Emov07_ok : Emov07.Ok := by
  intro m g hh hpc h0 hg
  have hpc' := (inw_iff _).1 hpc
  have h0 : g (ix m.pc) = 71 := h0
  refine P_endsE hpc hh h0 (p47_0 m g _ _) (by simp [*]) (by decide) ?_ (.inl rfl)
  simp [Emov07, *]
def Emvi0 : Ent := ⟨6, fun m g => inb (g (ix (w16 (m.pc + 1)))), fun m g => { m with pc := w16 (m.pc + 2), r0 := g (ix (w16 (m.pc + 1))) }, fun m g => g⟩
theorem Emvi0_ok : Emvi0.Ok := by
  intro m g hh hpc h0 hg
  have hpc' := (inw_iff _).1 hpc
  have h0 : g (ix m.pc) = 6 := h0
  have hg : (inb (g (ix (w16 (m.pc + 1))))) = true := hg
  simp only [Bool.and_eq_true, inbB, inwB] at hg
  refine P_endsE hpc hh h0 (p06_0 m g _ _) (by simp [*]) (by decide) ?_ (.inl rfl)
  simp [Emvi0, *]
def Emov10 : Ent := ⟨72, fun m g => true, fun m g => { m with pc := w16 (m.pc + 1), r1 := m.r0 }, fun m g => g⟩
theorem Emov10_ok : Emov10.Ok := by
  intro m g hh hpc h0 hg
  have hpc' := (inw_iff _).1 hpc
  have h0 : g (ix m.pc) = 72 := h0
  refine P_endsE hpc hh h0 (p48_0 m g _ _) (by simp [*]) (by decide) ?_ (.inl rfl)
  simp [Emov10, *]
def Emov11 : Ent := ⟨73, fun m g => true, fun m g => { m with pc := w16 (m.pc + 1) }, fun m g => g⟩
theorem Emov11_ok : Emov11.Ok := by
  intro m g hh hpc h0 hg
  have hpc' := (inw_iff _).1 hpc
  have h0 : g (ix m.pc) = 73 := h0
  refine P_endsE hpc hh h0 (p49_0 m g _ _) (by simp [*]) (by decide) ?_ (.inl rfl)
  simp [Emov11, *]
def Emov12 : Ent := ⟨74, fun m g => true, fun m g => { m with pc := w16 (m.pc + 1), r1 := m.r2 }, fun m g => g⟩
theorem Emov12_ok : Emov12.Ok := by
  intro m g hh hpc h0 hg
  have hpc' := (inw_iff _).1 hpc
  have h0 : g (ix m.pc) = 74 := h0
  refine P_endsE hpc hh h0 (p4a_0 m g _ _) (by simp [*]) (by decide) ?_ (.inl rfl)
  simp [Emov12, *]
def Emov13 : Ent := ⟨75, fun m g => true, fun m g => { m with pc := w16 (m.pc + 1), r1 := m.r3 }, fun m g => g⟩
theorem Emov13_ok : Emov13.Ok := by
  intro m g hh hpc h0 hg
  have hpc' := (inw_iff _).1 hpc
  have h0 : g (ix m.pc) = 75 := h0
  refine P_endsE hpc hh h0 (p4b_0 m g _ _) (by simp [*]) (by decide) ?_ (.inl rfl)
  simp [Emov13, *]
def Emov14 : Ent := ⟨76, fun m g => true, fun m g => { m with pc := w16 (m.pc + 1), r1 := m.r4 }, fun m g => g⟩
theorem Emov14_ok : Emov14.Ok := by
  intro m g hh hpc h0 hg
  have hpc' := (inw_iff _).1 hpc
  have h0 : g (ix m.pc) = 76 := h0
  refine P_endsE hpc hh h0 (p4c_0 m g _ _) (by simp [*]) (by decide) ?_ (.inl rfl)
  simp [Emov14, *]
def Emov15 : Ent := ⟨77, fun m g => true, fun m g => { m with pc := w16 (m.pc + 1), r1 := m.r5 }, fun m g => g⟩
theorem Emov15_ok : Emov15.Ok := by
  intro m g hh hpc h0 hg
  have hpc' := (inw_iff _).1 hpc
  have h0 : g (ix m.pc) = 77 := h0
  refine P_endsE hpc hh h0 (p4d_0 m g _ _) (by simp [*]) (by decide) ?_ (.inl rfl)
  simp [Emov15, *]
def Emov17 : Ent := ⟨79, fun m g => true, fun m g => { m with pc := w16 (m.pc + 1), r1 := m.r7 }, fun m g => g⟩
theorem Emov17_ok : Emov17.Ok := by
  intro m g hh hpc h0 hg
  have hpc' := (inw_iff _).1 hpc
  have h0 : g (ix m.pc) = 79 := h0
  refine P_endsE hpc hh h0 (p4f_0 m g _ _) (by simp [*]) (by decide) ?_ (.inl rfl)
  simp [Emov17, *]
def Emvi1 : Ent := ⟨14, fun m g => inb (g (ix (w16 (m.pc + 1)))), fun m g => { m with pc := w16 (m.pc + 2), r1 := g (ix (w16 (m.pc + 1))) }, fun m g => g⟩
theorem Emvi1_ok : Emvi1.Ok := by
  intro m g hh hpc h0 hg
  have hpc' := (inw_iff _).1 hpc
  have h0 : g (ix m.pc) = 14 := h0
  have hg : (inb (g (ix (w16 (m.pc + 1))))) = true := hg
  simp only [Bool.and_eq_true, inbB, inwB] at hg
  refine P_endsE hpc hh h0 (p0e_0 m g _ _) (by simp [*]) (by decide) ?_ (.inl rfl)
  simp [Emvi1, *]
def Emov20 : Ent := ⟨80, fun m g => true, fun m g => { m with pc := w16 (m.pc + 1), r2 := m.r0 }, fun m g => g⟩
theorem Emov20_ok : Emov20.Ok := by
  intro m g hh hpc h0 hg
  have hpc' := (inw_iff _).1 hpc
  have h0 : g (ix m.pc) = 80 := h0
  refine P_endsE hpc hh h0 (p50_0 m g _ _) (by simp [*]) (by decide) ?_ (.inl rfl)
  simp [Emov20, *]
def Emov21 : Ent := ⟨81, fun m g => true, fun m g => { m with pc := w16 (m.pc + 1), r2 := m.r1 }, fun m g => g⟩
theorem Emov21_ok : Emov21.Ok := by
  intro m g hh hpc h0 hg
  have hpc' := (inw_iff _).1 hpc
  have h0 : g (ix m.pc) = 81 := h0
  refine P_endsE hpc hh h0 (p51_0 m g _ _) (by simp [*]) (by decide) ?_ (.inl rfl)
  simp [Emov21, *]
def Emov22 : Ent := ⟨82, fun m g => true, fun m g => { m with pc := w16 (m.pc + 1) }, fun m g => g⟩
theorem Emov22_ok : Emov22.Ok := by
  intro m g hh hpc h0 hg
  have hpc' := (inw_iff _).1 hpc
  have h0 : g (ix m.pc) = 82 := h0
  refine P_endsE hpc hh h0 (p52_0 m g _ _) (by simp [*]) (by decide) ?_ (.inl rfl)
  simp [Emov22, *]
def Emov23 : Ent := ⟨83, fun m g => true, fun m g => { m with pc := w16 (m.pc + 1), r2 := m.r3 }, fun m g => g⟩
theorem Emov23_ok : Emov23.Ok := by
  intro m g hh hpc h0 hg
  have hpc' := (inw_iff _).1 hpc
  have h0 : g (ix m.pc) = 83 := h0
  refine P_endsE hpc hh h0 (p53_0 m g _ _) (by simp [*]) (by decide) ?_ (.inl rfl)
  simp [Emov23, *]
def Emov24 : Ent := ⟨84, fun m g => true, fun m g => { m with pc := w16 (m.pc + 1), r2 := m.r4 }, fun m g => g⟩
theorem Emov24_ok : Emov24.Ok := by
  intro m g hh hpc h0 hg
  have hpc' := (inw_iff _).1 hpc
  have h0 : g (ix m.pc) = 84 := h0
  refine P_endsE hpc hh h0 (p54_0 m g _ _) (by simp [*]) (by decide) ?_ (.inl rfl)
  simp [Emov24, *]
def Emov25 : Ent := ⟨85, fun m g => true, fun m g => { m with pc := w16 (m.pc + 1), r2 := m.r5 }, fun m g => g⟩
theorem Emov25_ok : Emov25.Ok := by
  intro m g hh hpc h0 hg
  have hpc' := (inw_iff _).1 hpc
  have h0 : g (ix m.pc) = 85 := h0
  refine P_endsE hpc hh h0 (p55_0 m g _ _) (by simp [*]) (by decide) ?_ (.inl rfl)
  simp [Emov25, *]
def Emov27 : Ent := ⟨87, fun m g => true, fun m g => { m with pc := w16 (m.pc + 1), r2 := m.r7 }, fun m g => g⟩
theorem Emov27_ok : Emov27.Ok := by
  intro m g hh hpc h0 hg
  have hpc' := (inw_iff _).1 hpc
  have h0 : g (ix m.pc) = 87 := h0
  refine P_endsE hpc hh h0 (p57_0 m g _ _) (by simp [*]) (by decide) ?_ (.inl rfl)
  simp [Emov27, *]
def Emvi2 : Ent := ⟨22, fun m g => inb (g (ix (w16 (m.pc + 1)))), fun m g => { m with pc := w16 (m.pc + 2), r2 := g (ix (w16 (m.pc + 1))) }, fun m g => g⟩
theorem Emvi2_ok : Emvi2.Ok := by
  intro m g hh hpc h0 hg
  have hpc' := (inw_iff _).1 hpc
  have h0 : g (ix m.pc) = 22 := h0
  have hg : (inb (g (ix (w16 (m.pc + 1))))) = true := hg
  simp only [Bool.and_eq_true, inbB, inwB] at hg
  refine P_endsE hpc hh h0 (p16_0 m g _ _) (by simp [*]) (by decide) ?_ (.inl rfl)
  simp [Emvi2, *]
def Emov30 : Ent := ⟨88, fun m g => true, fun m g => { m with pc := w16 (m.pc + 1), r3 := m.r0 }, fun m g => g⟩
theorem Emov30_ok : Emov30.Ok := by
  intro m g hh hpc h0 hg
  have hpc' := (inw_iff _).1 hpc
  have h0 : g (ix m.pc) = 88 := h0
  refine P_endsE hpc hh h0 (p58_0 m g _ _) (by simp [*]) (by decide) ?_ (.inl rfl)
  simp [Emov30, *]
def Emov31 : Ent := ⟨89, fun m g => true, fun m g => { m with pc := w16 (m.pc + 1), r3 := m.r1 }, fun m g => g⟩
theorem Emov31_ok : Emov31.Ok := by
  intro m g hh hpc h0 hg
  have hpc' := (inw_iff _).1 hpc
  have h0 : g (ix m.pc) = 89 := h0
  refine P_endsE hpc hh h0 (p59_0 m g _ _) (by simp [*]) (by decide) ?_ (.inl rfl)
  simp [Emov31, *]
def Emov32 : Ent := ⟨90, fun m g => true, fun m g => { m with pc := w16 (m.pc + 1), r3 := m.r2 }, fun m g => g⟩
theorem Emov32_ok : Emov32.Ok := by
  intro m g hh hpc h0 hg
  have hpc' := (inw_iff _).1 hpc
  have h0 : g (ix m.pc) = 90 := h0
  refine P_endsE hpc hh h0 (p5a_0 m g _ _) (by simp [*]) (by decide) ?_ (.inl rfl)
  simp [Emov32, *]
def Emov33 : Ent := ⟨91, fun m g => true, fun m g => { m with pc := w16 (m.pc + 1) }, fun m g => g⟩
theorem Emov33_ok : Emov33.Ok := by
  intro m g hh hpc h0 hg
  have hpc' := (inw_iff _).1 hpc
  have h0 : g (ix m.pc) = 91 := h0
  refine P_endsE hpc hh h0 (p5b_0 m g _ _) (by simp [*]) (by decide) ?_ (.inl rfl)
  simp [Emov33, *]
def Emov34 : Ent := ⟨92, fun m g => true, fun m g => { m with pc := w16 (m.pc + 1), r3 := m.r4 }, fun m g => g⟩
theorem Emov34_ok : Emov34.Ok := by
  intro m g hh hpc h0 hg
  have hpc' := (inw_iff _).1 hpc
  have h0 : g (ix m.pc) = 92 := h0
  refine P_endsE hpc hh h0 (p5c_0 m g _ _) (by simp [*]) (by decide) ?_ (.inl rfl)
  simp [Emov34, *]
def Emov35 : Ent := ⟨93, fun m g => true, fun m g => { m with pc := w16 (m.pc + 1), r3 := m.r5 }, fun m g => g⟩
theorem Emov35_ok : Emov35.Ok := by
  intro m g hh hpc h0 hg
  have hpc' := (inw_iff _).1 hpc
  have h0 : g (ix m.pc) = 93 := h0
  refine P_endsE hpc hh h0 (p5d_0 m g _ _) (by simp [*]) (by decide) ?_ (.inl rfl)
  simp [Emov35, *]
def Emov37 : Ent := ⟨95, fun m g => true, fun m g => { m with pc := w16 (m.pc + 1), r3 := m.r7 }, fun m g => g⟩
theorem Emov37_ok : Emov37.Ok := by
  intro m g hh hpc h0 hg
  have hpc' := (inw_iff _).1 hpc
  have h0 : g (ix m.pc) = 95 := h0
  refine P_endsE hpc hh h0 (p5f_0 m g _ _) (by simp [*]) (by decide) ?_ (.inl rfl)
  simp [Emov37, *]
def Emvi3 : Ent := ⟨30, fun m g => inb (g (ix (w16 (m.pc + 1)))), fun m g => { m with pc := w16 (m.pc + 2), r3 := g (ix (w16 (m.pc + 1))) }, fun m g => g⟩
theorem Emvi3_ok : Emvi3.Ok := by
  intro m g hh hpc h0 hg
  have hpc' := (inw_iff _).1 hpc
  have h0 : g (ix m.pc) = 30 := h0
  have hg : (inb (g (ix (w16 (m.pc + 1))))) = true := hg
  simp only [Bool.and_eq_true, inbB, inwB] at hg
  refine P_endsE hpc hh h0 (p1e_0 m g _ _) (by simp [*]) (by decide) ?_ (.inl rfl)
  simp [Emvi3, *]
def Emov40 : Ent := ⟨96, fun m g => true, fun m g => { m with pc := w16 (m.pc + 1), r4 := m.r0 }, fun m g => g⟩
theorem Emov40_ok : Emov40.Ok := by
  intro m g hh hpc h0 hg
  have hpc' := (inw_iff _).1 hpc
  have h0 : g (ix m.pc) = 96 := h0
  refine P_endsE hpc hh h0 (p60_0 m g _ _) (by simp [*]) (by decide) ?_ (.inl rfl)
  simp [Emov40, *]
def Emov41 : Ent := ⟨97, fun m g => true, fun m g => { m with pc := w16 (m.pc + 1), r4 := m.r1 }, fun m g => g⟩
theorem Emov41_ok : Emov41.Ok := by
  intro m g hh hpc h0 hg
  have hpc' := (inw_iff _).1 hpc
  have h0 : g (ix m.pc) = 97 := h0
  refine P_endsE hpc hh h0 (p61_0 m g _ _) (by simp [*]) (by decide) ?_ (.inl rfl)
  simp [Emov41, *]
def Emov42 : Ent := ⟨98, fun m g => true, fun m g => { m with pc := w16 (m.pc + 1), r4 := m.r2 }, fun m g => g⟩
theorem Emov42_ok : Emov42.Ok := by
  intro m g hh hpc h0 hg
  have hpc' := (inw_iff _).1 hpc
  have h0 : g (ix m.pc) = 98 := h0
  refine P_endsE hpc hh h0 (p62_0 m g _ _) (by simp [*]) (by decide) ?_ (.inl rfl)
  simp [Emov42, *]
def Emov43 : Ent := ⟨99, fun m g => true, fun m g => { m with pc := w16 (m.pc + 1), r4 := m.r3 }, fun m g => g⟩
theorem Emov43_ok : Emov43.Ok := by
  intro m g hh hpc h0 hg
  have hpc' := (inw_iff _).1 hpc
  have h0 : g (ix m.pc) = 99 := h0
  refine P_endsE hpc hh h0 (p63_0 m g _ _) (by simp [*]) (by decide) ?_ (.inl rfl)
  simp [Emov43, *]
def Emov44 : Ent := ⟨100, fun m g => true, fun m g => { m with pc := w16 (m.pc + 1) }, fun m g => g⟩
theorem Emov44_ok : Emov44.Ok := by
  intro m g hh hpc h0 hg
  have hpc' := (inw_iff _).1 hpc
  have h0 : g (ix m.pc) = 100 := h0
  refine P_endsE hpc hh h0 (p64_0 m g _ _) (by simp [*]) (by decide) ?_ (.inl rfl)
  simp [Emov44, *]
def Emov45 : Ent := ⟨101, fun m g => true, fun m g => { m with pc := w16 (m.pc + 1), r4 := m.r5 }, fun m g => g⟩
theorem Emov45_ok : Emov45.Ok := by
  intro m g hh hpc h0 hg
  have hpc' := (inw_iff _).1 hpc
  have h0 : g (ix m.pc) = 101 := h0
  refine P_endsE hpc hh h0 (p65_0 m g _ _) (by simp [*]) (by decide) ?_ (.inl rfl)
  simp [Emov45, *]
def Emov47 : Ent := ⟨103, fun m g => true, fun m g => { m with pc := w16 (m.pc + 1), r4 := m.r7 }, fun m g => g⟩
theorem Emov47_ok : Emov47.Ok := by
  intro m g hh hpc h0 hg
  have hpc' := (inw_iff _).1 hpc
  have h0 : g (ix m.pc) = 103 := h0
  refine P_endsE hpc hh h0 (p67_0 m g _ _) (by simp [*]) (by decide) ?_ (.inl rfl)
  simp [Emov47, *]
def Emvi4 : Ent := ⟨38, fun m g => inb (g (ix (w16 (m.pc + 1)))), fun m g => { m with pc := w16 (m.pc + 2), r4 := g (ix (w16 (m.pc + 1))) }, fun m g => g⟩
theorem Emvi4_ok : Emvi4.Ok := by
  intro m g hh hpc h0 hg
  have hpc' := (inw_iff _).1 hpc
  have h0 : g (ix m.pc) = 38 := h0
  have hg : (inb (g (ix (w16 (m.pc + 1))))) = true := hg
  simp only [Bool.and_eq_true, inbB, inwB] at hg
  refine P_endsE hpc hh h0 (p26_0 m g _ _) (by simp [*]) (by decide) ?_ (.inl rfl)
  simp [Emvi4, *]
def Emov50 : Ent := ⟨104, fun m g => true, fun m g => { m with pc := w16 (m.pc + 1), r5 := m.r0 }, fun m g => g⟩
theorem Emov50_ok : Emov50.Ok := by
  intro m g hh hpc h0 hg
  have hpc' := (inw_iff _).1 hpc
  have h0 : g (ix m.pc) = 104 := h0
  refine P_endsE hpc hh h0 (p68_0 m g _ _) (by simp [*]) (by decide) ?_ (.inl rfl)
  simp [Emov50, *]
def Emov51 : Ent := ⟨105, fun m g => true, fun m g => { m with pc := w16 (m.pc + 1), r5 := m.r1 }, fun m g => g⟩
theorem Emov51_ok : Emov51.Ok := by
  intro m g hh hpc h0 hg
  have hpc' := (inw_iff _).1 hpc
  have h0 : g (ix m.pc) = 105 := h0
  refine P_endsE hpc hh h0 (p69_0 m g _ _) (by simp [*]) (by decide) ?_ (.inl rfl)
  simp [Emov51, *]
def Emov52 : Ent := ⟨106, fun m g => true, fun m g => { m with pc := w16 (m.pc + 1), r5 := m.r2 }, fun m g => g⟩
theorem Emov52_ok : Emov52.Ok := by
  intro m g hh hpc h0 hg
  have hpc' := (inw_iff _).1 hpc
  have h0 : g (ix m.pc) = 106 := h0
  refine P_endsE hpc hh h0 (p6a_0 m g _ _) (by simp [*]) (by decide) ?_ (.inl rfl)
  simp [Emov52, *]
def Emov53 : Ent := ⟨107, fun m g => true, fun m g => { m with pc := w16 (m.pc + 1), r5 := m.r3 }, fun m g => g⟩
theorem Emov53_ok : Emov53.Ok := by
  intro m g hh hpc h0 hg
  have hpc' := (inw_iff _).1 hpc
  have h0 : g (ix m.pc) = 107 := h0
  refine P_endsE hpc hh h0 (p6b_0 m g _ _) (by simp [*]) (by decide) ?_ (.inl rfl)
  simp [Emov53, *]
def Emov54 : Ent := ⟨108, fun m g => true, fun m g => { m with pc := w16 (m.pc + 1), r5 := m.r4 }, fun m g => g⟩
theorem Emov54_ok : Emov54.Ok := by
  intro m g hh hpc h0 hg
  have hpc' := (inw_iff _).1 hpc
  have h0 : g (ix m.pc) = 108 := h0
  refine P_endsE hpc hh h0 (p6c_0 m g _ _) (by simp [*]) (by decide) ?_ (.inl rfl)
  simp [Emov54, *]
def Emov55 : Ent := ⟨109, fun m g => true, fun m g => { m with pc := w16 (m.pc + 1) }, fun m g => g⟩
theorem Emov55_ok : Emov55.Ok := by
  intro m g hh hpc h0 hg
  have hpc' := (inw_iff _).1 hpc
  have h0 : g (ix m.pc) = 109 := h0
  refine P_endsE hpc hh h0 (p6d_0 m g _ _) (by simp [*]) (by decide) ?_ (.inl rfl)
  simp [Emov55, *]
def Emov57 : Ent := ⟨111, fun m g => true, fun m g => { m with pc := w16 (m.pc + 1), r5 := m.r7 }, fun m g => g⟩
theorem Emov57_ok : Emov57.Ok := by
  intro m g hh hpc h0 hg
  have hpc' := (inw_iff _).1 hpc
  have h0 : g (ix m.pc) = 111 := h0
  refine P_endsE hpc hh h0 (p6f_0 m g _ _) (by simp [*]) (by decide) ?_ (.inl rfl)
  simp [Emov57, *]
def Emvi5 : Ent := ⟨46, fun m g => inb (g (ix (w16 (m.pc + 1)))), fun m g => { m with pc := w16 (m.pc + 2), r5 := g (ix (w16 (m.pc + 1))) }, fun m g => g⟩
theorem Emvi5_ok : Emvi5.Ok := by
  intro m g hh hpc h0 hg
  have hpc' := (inw_iff _).1 hpc
  have h0 : g (ix m.pc) = 46 := h0
  have hg : (inb (g (ix (w16 (m.pc + 1))))) = true := hg
  simp only [Bool.and_eq_true, inbB, inwB] at hg
  refine P_endsE hpc hh h0 (p2e_0 m g _ _) (by simp [*]) (by decide) ?_ (.inl rfl)
  simp [Emvi5, *]
def Emov70 : Ent := ⟨120, fun m g => true, fun m g => { m with pc := w16 (m.pc + 1), r7 := m.r0 }, fun m g => g⟩
theorem Emov70_ok : Emov70.Ok := by
  intro m g hh hpc h0 hg
  have hpc' := (inw_iff _).1 hpc
  have h0 : g (ix m.pc) = 120 := h0
  refine P_endsE hpc hh h0 (p78_0 m g _ _) (by simp [*]) (by decide) ?_ (.inl rfl)
  simp [Emov70, *]
def Emov71 : Ent := ⟨121, fun m g => true, fun m g => { m with pc := w16 (m.pc + 1), r7 := m.r1 }, fun m g => g⟩
theorem Emov71_ok : Emov71.Ok := by
  intro m g hh hpc h0 hg
  have hpc' := (inw_iff _).1 hpc
  have h0 : g (ix m.pc) = 121 := h0
  refine P_endsE hpc hh h0 (p79_0 m g _ _) (by simp [*]) (by decide) ?_ (.inl rfl)
  simp [Emov71, *]
def Emov72 : Ent := ⟨122, fun m g => true, fun m g => { m with pc := w16 (m.pc + 1), r7 := m.r2 }, fun m g => g⟩
theorem Emov72_ok : Emov72.Ok := by
  intro m g hh hpc h0 hg
  have hpc' := (inw_iff _).1 hpc
  have h0 : g (ix m.pc) = 122 := h0
  refine P_endsE hpc hh h0 (p7a_0 m g _ _) (by simp [*]) (by decide) ?_ (.inl rfl)
  simp [Emov72, *]
def Emov73 : Ent := ⟨123, fun m g => true, fun m g => { m with pc := w16 (m.pc + 1), r7 := m.r3 }, fun m g => g⟩
theorem Emov73_ok : Emov73.Ok := by
  intro m g hh hpc h0 hg
  have hpc' := (inw_iff _).1 hpc
  have h0 : g (ix m.pc) = 123 := h0
  refine P_endsE hpc hh h0 (p7b_0 m g _ _) (by simp [*]) (by decide) ?_ (.inl rfl)
  simp [Emov73, *]
def Emov74 : Ent := ⟨124, fun m g => true, fun m g => { m with pc := w16 (m.pc + 1), r7 := m.r4 }, fun m g => g⟩
theorem Emov74_ok : Emov74.Ok := by
  intro m g hh hpc h0 hg
  have hpc' := (inw_iff _).1 hpc
  have h0 : g (ix m.pc) = 124 := h0
  refine P_endsE hpc hh h0 (p7c_0 m g _ _) (by simp [*]) (by decide) ?_ (.inl rfl)
  simp [Emov74, *]
def Emov75 : Ent := ⟨125, fun m g => true, fun m g => { m with pc := w16 (m.pc + 1), r7 := m.r5 }, fun m g => g⟩
theorem Emov75_ok : Emov75.Ok := by
  intro m g hh hpc h0 hg
  have hpc' := (inw_iff _).1 hpc
  have h0 : g (ix m.pc) = 125 := h0
  refine P_endsE hpc hh h0 (p7d_0 m g _ _) (by simp [*]) (by decide) ?_ (.inl rfl)
  simp [Emov75, *]
def Emov77 : Ent := ⟨127, fun m g => true, fun m g => { m with pc := w16 (m.pc + 1) }, fun m g => g⟩
theorem Emov77_ok : Emov77.Ok := by
  intro m g hh hpc h0 hg
  have hpc' := (inw_iff _).1 hpc
  have h0 : g (ix m.pc) = 127 := h0
  refine P_endsE hpc hh h0 (p7f_0 m g _ _) (by simp [*]) (by decide) ?_ (.inl rfl)
  simp [Emov77, *]
def Emvi7 : Ent := ⟨62, fun m g => inb (g (ix (w16 (m.pc + 1)))), fun m g => { m with pc := w16 (m.pc + 2), r7 := g (ix (w16 (m.pc + 1))) }, fun m g => g⟩
theorem Emvi7_ok : Emvi7.Ok := by
  intro m g hh hpc h0 hg
  have hpc' := (inw_iff _).1 hpc
  have h0 : g (ix m.pc) = 62 := h0
  have hg : (inb (g (ix (w16 (m.pc + 1))))) = true := hg
  simp only [Bool.and_eq_true, inbB, inwB] at hg
  refine P_endsE hpc hh h0 (p3e_0 m g _ _) (by simp [*]) (by decide) ?_ (.inl rfl)
  simp [Emvi7, *]
def Elxi0 : Ent := ⟨1, fun m g => inb (g (ix (w16 (m.pc + 1)))) && inb (g (ix (w16 (m.pc + 2)))), fun m g => { m with pc := w16 (m.pc + 3), r0 := g (ix (w16 (m.pc + 2))), r1 := g (ix (w16 (m.pc + 1))) }, fun m g => g⟩
theorem Elxi0_ok : Elxi0.Ok := by
  intro m g hh hpc h0 hg
  have hpc' := (inw_iff _).1 hpc
  have h0 : g (ix m.pc) = 1 := h0
  have hg : (inb (g (ix (w16 (m.pc + 1)))) && inb (g (ix (w16 (m.pc + 2))))) = true := hg
  simp only [Bool.and_eq_true, inbB, inwB] at hg
  refine P_endsE hpc hh h0 (p01_0 m g _ _) (by simp [*]) (by decide) ?_ (.inl rfl)
  simp [Elxi0, *]
def Einx0 : Ent := ⟨3, fun m g => inb m.r0 && inb m.r1, fun m g => { m with pc := w16 (m.pc + 1), r0 := (256 * m.r0 + m.r1 + 1) % 65536 / 256, r1 := (256 * m.r0 + m.r1 + 1) % 256 }, fun m g => g⟩
theorem Einx0_ok : Einx0.Ok := by
  intro m g hh hpc h0 hg
  have hpc' := (inw_iff _).1 hpc
  have h0 : g (ix m.pc) = 3 := h0
  have hg : (inb m.r0 && inb m.r1) = true := hg
  simp only [Bool.and_eq_true, inbB, inwB] at hg
  refine P_endsE hpc hh h0 (p03_0 m g _ _) (by simp [*]) (by decide) ?_ (.inl rfl)
  simp [Einx0, *]
def Elxi1 : Ent := ⟨17, fun m g => inb (g (ix (w16 (m.pc + 1)))) && inb (g (ix (w16 (m.pc + 2)))), fun m g => { m with pc := w16 (m.pc + 3), r2 := g (ix (w16 (m.pc + 2))), r3 := g (ix (w16 (m.pc + 1))) }, fun m g => g⟩
theorem Elxi1_ok : Elxi1.Ok := by
  intro m g hh hpc h0 hg
  have hpc' := (inw_iff _).1 hpc
  have h0 : g (ix m.pc) = 17 := h0
  have hg : (inb (g (ix (w16 (m.pc + 1)))) && inb (g (ix (w16 (m.pc + 2))))) = true := hg
  simp only [Bool.and_eq_true, inbB, inwB] at hg
  refine P_endsE hpc hh h0 (p11_0 m g _ _) (by simp [*]) (by decide) ?_ (.inl rfl)
  simp [Elxi1, *]
def Einx1 : Ent := ⟨19, fun m g => inb m.r2 && inb m.r3, fun m g => { m with pc := w16 (m.pc + 1), r2 := (256 * m.r2 + m.r3 + 1) % 65536 / 256, r3 := (256 * m.r2 + m.r3 + 1) % 256 }, fun m g => g⟩
theorem Einx1_ok : Einx1.Ok := by
  intro m g hh hpc h0 hg
  have hpc' := (inw_iff _).1 hpc
  have h0 : g (ix m.pc) = 19 := h0
  have hg : (inb m.r2 && inb m.r3) = true := hg
  simp only [Bool.and_eq_true, inbB, inwB] at hg
  refine P_endsE hpc hh h0 (p13_0 m g _ _) (by simp [*]) (by decide) ?_ (.inl rfl)
  simp [Einx1, *]
def Elxi2 : Ent := ⟨33, fun m g => inb (g (ix (w16 (m.pc + 1)))) && inb (g (ix (w16 (m.pc + 2)))), fun m g => { m with pc := w16 (m.pc + 3), r4 := g (ix (w16 (m.pc + 2))), r5 := g (ix (w16 (m.pc + 1))) }, fun m g => g⟩
theorem Elxi2_ok : Elxi2.Ok := by
  intro m g hh hpc h0 hg
  have hpc' := (inw_iff _).1 hpc
  have h0 : g (ix m.pc) = 33 := h0
  have hg : (inb (g (ix (w16 (m.pc + 1)))) && inb (g (ix (w16 (m.pc + 2))))) = true := hg
  simp only [Bool.and_eq_true, inbB, inwB] at hg
  refine P_endsE hpc hh h0 (p21_0 m g _ _) (by simp [*]) (by decide) ?_ (.inl rfl)
  simp [Elxi2, *]
def Einx2 : Ent := ⟨35, fun m g => inb m.r4 && inb m.r5, fun m g => { m with pc := w16 (m.pc + 1), r4 := (256 * m.r4 + m.r5 + 1) % 65536 / 256, r5 := (256 * m.r4 + m.r5 + 1) % 256 }, fun m g => g⟩
theorem Einx2_ok : Einx2.Ok := by
  intro m g hh hpc h0 hg
  have hpc' := (inw_iff _).1 hpc
  have h0 : g (ix m.pc) = 35 := h0
  have hg : (inb m.r4 && inb m.r5) = true := hg
  simp only [Bool.and_eq_true, inbB, inwB] at hg
  refine P_endsE hpc hh h0 (p23_0 m g _ _) (by simp [*]) (by decide) ?_ (.inl rfl)
  simp [Einx2, *]
def Elxi3 : Ent := ⟨49, fun m g => inb (g (ix (w16 (m.pc + 1)))) && inb (g (ix (w16 (m.pc + 2)))), fun m g => { m with pc := w16 (m.pc + 3), sp := 256 * g (ix (w16 (m.pc + 2))) + g (ix (w16 (m.pc + 1))) }, fun m g => g⟩
theorem Elxi3_ok : Elxi3.Ok := by
  intro m g hh hpc h0 hg
  have hpc' := (inw_iff _).1 hpc
  have h0 : g (ix m.pc) = 49 := h0
  have hg : (inb (g (ix (w16 (m.pc + 1)))) && inb (g (ix (w16 (m.pc + 2))))) = true := hg
  simp only [Bool.and_eq_true, inbB, inwB] at hg
  refine P_endsE hpc hh h0 (p31_0 m g _ _) (by simp [*]) (by decide) ?_ (.inl rfl)
  simp [Elxi3, *]
def Einx3 : Ent := ⟨51, fun m g => inw m.sp, fun m g => { m with pc := w16 (m.pc + 1), sp := w16 (m.sp + 1) }, fun m g => g⟩
theorem Einx3_ok : Einx3.Ok := by
  intro m g hh hpc h0 hg
  have hpc' := (inw_iff _).1 hpc
  have h0 : g (ix m.pc) = 51 := h0
  have hg : (inw m.sp) = true := hg
  simp only [Bool.and_eq_true, inbB, inwB] at hg
  refine P_endsE hpc hh h0 (p33_0 m g _ _) (by simp [*]) (by decide) ?_ (.inl rfl)
  simp [Einx3, *]
def Exchg : Ent := ⟨235, fun m g => (inb m.r2 && inb m.r3) && (inb m.r4 && inb m.r5), fun m g => { m with pc := w16 (m.pc + 1), r2 := m.r4, r3 := m.r5, r4 := m.r2, r5 := m.r3 }, fun m g => g⟩
theorem Exchg_ok : Exchg.Ok := by
  intro m g hh hpc h0 hg
  have hpc' := (inw_iff _).1 hpc
  have h0 : g (ix m.pc) = 235 := h0
  have hg : ((inb m.r2 && inb m.r3) && (inb m.r4 && inb m.r5)) = true := hg
  simp only [Bool.and_eq_true, inbB, inwB] at hg
  refine P_endsE hpc hh h0 (peb_0 m g _ _) (by simp [*]) (by decide) ?_ (.inl rfl)
  simp [Exchg, *]
end Go.Proofs.Ytpggoincnebfnaa
namespace Go.Ly
open Go.RowKit
def OWo : Option LO → Option LO → Prop
  | _, none => True
  | some a, some b => OW a b
  | none, some _ => False
theorem OWo.refl : ∀ (o : Option LO), OWo o o
  | none => trivial
  | some a => OW.refl a
theorem OWo.cells {c c' : List Value} {t : TypeId} (h : VWL c c') : OWo (some (.cells c t)) (some (.cells c' t)) := OW.cells h
theorem VWL.cons {v u : Value} {r s : List Value} (h : VW v u) (k : VWL r s) : VWL (v :: r) (u :: s) := ⟨u, s, h, k, rfl⟩
theorem VWL.nil : VWL [] [] := rfl
theorem weak_vH {H : Heap} {bs : List Nat} {os os' : List (Option LO)} {nx : Nat} (hn : H.next = nx) (hl : H.lock = 0) (hg : bs.map H.get = os) (hw : Each2 OWo os os') (hb : (nodupB bs && bs.all (fun b => Nat.blt b 2147483000)) = true) : WeakH H (vH bs os' nx) := by
  rw [Bool.and_eq_true] at hb
  have hnd := nodupB_iff bs hb.1
  have hbb : ∀ b ∈ bs, b < big := fun b h => by have := List.all_eq_true.1 hb.2 b h; simpa [Nat.blt_eq, big] using this
  have hlen : bs.length = os'.length := by rw [← hw.length, ← hg]; simp
  obtain ⟨g1, g2⟩ := setZip_get bs os' .nil hlen hbb hnd
  refine ⟨hn.symm, hl.symm, fun i o ho => ?_⟩
  have ho : (setAll (bs.zip os') .nil).get i = some o := ho
  by_cases hi : i ∈ bs
  · obtain ⟨j, hj, e⟩ := List.getElem_of_mem hi
    have e1 := g1 j i _ (by rw [List.getElem?_eq_getElem hj, e]) (List.getElem?_eq_getElem (show j < os'.length by omega))
    rw [e1] at ho
    have h2 := hw.get j (H.get i) (os'[j]'(by omega)) (by rw [← hg, List.getElem?_map, List.getElem?_eq_getElem hj, e]; rfl) (List.getElem?_eq_getElem (by omega))
    rw [ho] at h2
    cases hH : H.get i with
    | none => rw [hH] at h2; exact h2.elim
    | some x => rw [hH] at h2; exact ⟨x, rfl, h2⟩
  · rw [g2 i hi, Tr.get_nil] at ho; cases ho
theorem MWp.keepB {P : Program} {Q : Value → Heap → Prop} {fn : Func} {k : List KI} {dst : Option Tmp} {base : Nat} {vals vals' : List Value} {H : Heap} {bs : List Nat} {os os' os'' : List (Option LO)} {nx : Nat} (kp : List Nat)
    (hn : H.next = nx) (hl : H.lock = 0) (hg : bs.map H.get = os) (hw : Each2 OWo os os') (hb : (nodupB bs && bs.all (fun b => Nat.blt b 2147483000)) = true)
    (hc : formOf kp bs (atSt fn k dst base vals (vH bs os' nx)) = (true, (fn, k, dst, base), vals', os''))
    (hP : ∀ o ∈ os'', ∀ x, o = some x → plainO x) (h : MWp P (mkSt fn k dst base vals' os'') Q) : MWp P (atSt fn k dst base vals H) Q := by
  refine MWp.weak (S := atSt fn k dst base vals H) (weak_vH hn hl hg hw hb) ?_
  show MWp P (atSt fn k dst base vals (vH bs os' nx)) Q
  simp only [formOf, Prod.mk.injEq] at hc
  obtain ⟨h1, ⟨h2, h3, h4, h5⟩, h6, h7⟩ := hc
  refine MWp.collect kp bs h1 (by rw [h7]; exact hP) ?_
  unfold Go.Ly.collect
  rw [h6, h7]; exact h
end Go.Ly
namespace Go.Proofs.Ytpggoincnebfnaa
open Go Go.Ly Go.RowKit
def pc0 (s : Sv) : Sv := ⟨s.r0, s.r1, s.r2, s.r3, s.r4, s.r5, s.r6, s.r7, s.fs, s.fz, s.fx, s.fp, s.fc, s.sp, 0, s.ie⟩
def rd8 : St := Ly.start Try.f8 [] H0
set_option maxRecDepth 100000 in
def k8 : List KI := ((Ly.run ctxO 149 [] (Ly.start Try.f8 [svV sv0 nilS nilS, .int .u8 0, .int .u8 0, .int .u16 0] (mkH [some (ints .u8 (fun _ => 0) 0), some (bytes2 (fun _ => 0) (fun _ => 0) 0)]))).st rd8).top.k
def v8 (q p : Nat) (d r w : Int) : List Value := slots 225 [(1, .int .u8 d), (2, .int .u8 r), (3, .int .u16 w), (4, ptr q), (9, ptr p)]
def l8 (d r w : Int) : List Value := [.int .u16 0, .int .u8 (w8 (w8 (64 + w8 (d * 8)) + r)), .int .u16 1, .int .u8 (w8 (6 + w8 (d * 8))), .int .u16 2, .int .u8 (w8 w), .int .u16 3, .int .u8 (w8 (1 + w8 (d.tmod 4 * 16))), .int .u16 4, .int .u8 (w8 w), .int .u16 5, .int .u8 (w8 (w.fdiv 256)), .int .u16 6, .int .u8 (w8 (3 + w8 (d.tmod 4 * 16))), .int .u16 7, .int .u8 235]
def g8 (d r w : Int) : Nat → Int := gm (GA (l8 d r w) 8) 8
def sCells (s : Sv) (i m : Value) : List Value := [.int .u8 s.r0, .int .u8 s.r1, .int .u8 s.r2, .int .u8 s.r3, .int .u8 s.r4, .int .u8 s.r5, .int .u8 0, .int .u8 s.r7, .bool s.fs, .bool s.fz, .bool s.fx, .bool s.fp, .bool s.fc, .int .u16 s.sp, .int .u16 s.pc, .bool s.ie, i, m]
def os8 (s : Sv) (g : Nat → Int) (l : List Value) : List (Option LO) := [none, none, some (.cells (sCells s anyV (.slice (some ⟨5, 0, none⟩) 8 8)) 29), some (.cells (cellsPb 4 0 (mOf s) anyV nilV) 60), some (memL g), some (.cells l 33)]
def st8 (s : Sv) (d r w : Int) (g : Nat → Int) (l : List Value) : St := mkSt Try.f8 k8 (some 88) 2 (v8 2 3 d r w) (os8 s g l)
theorem vwCells {b rg : Nat} {m : Mc} {i o i' o' : Value} (hi : VW i i') (ho : VW o o') : VWL (cellsPb b rg m i o) (cellsPb b rg m i' o') := by
  simp only [cellsPb]
  repeat' (first | exact VWL.nil | exact hi | exact ho | exact VW.refl _ | apply VWL.cons)
theorem vwS {s : Sv} {i m i' m' : Value} (hi : VW i i') (hm : VW m m') : VWL (sCells s i m) (sCells s i' m') := by
  simp only [sCells]
  repeat' (first | exact VWL.nil | exact hi | exact hm | exact VW.refl _ | apply VWL.cons)
theorem plain_mem (g : Nat → Int) : plainO (memL g) := fun e j => by simp [noBlk, blks]
theorem plain_os8 {s : Sv} {g : Nat → Int} {l : List Value} : ∀ o ∈ os8 s g l, ∀ x, o = some x → plainO x := by
  intro o ho x hx
  simp only [os8, List.mem_cons, List.not_mem_nil, or_false] at ho
  rcases ho with rfl | rfl | rfl | rfl | rfl | rfl <;> first | (simp only [Option.some.injEq] at hx; subst hx; first | exact plain_mem g | exact trivial) | cases hx
def tD (d : Int) : Bool × Bool := (decide (7 < d) == false, true)
def tE (d : Int) : Bool × Bool := ((d == 6) == false, true)
theorem tD_ok {d : Int} (h : d ≤ 7) : trusted [tD d] := ⟨by show (decide (7 < d) == false) = true; rw [decide_eq_false (by omega)]; rfl, trivial⟩
theorem tE_ok {d : Int} (h : d ≠ 6) : trusted [tE d] := ⟨by show ((d == 6) == false) = true; rw [beq_false_of_ne h]; rfl, trivial⟩
def tMe (n : Nat) : Bool × Bool := (decide ((256 : Int) < ((n + 1 : Nat) : Int)) == false, true)
theorem tMe_ok {n : Nat} (h : n + 1 ≤ 256) : trusted [tMe n] := ⟨by show (decide ((256 : Int) < ((n + 1 : Nat) : Int)) == false) = true; rw [decide_eq_false (by omega)]; rfl, trivial⟩
def tLn8 (k : Nat) : Bool × Bool := ((!(decide (((k + 1 : Nat) : Int) ≤ 300))) == false, true)
theorem tLn8_ok {k : Nat} (h : k + 1 ≤ 300) : trusted [tLn8 k] := ⟨by show ((!(decide (((k + 1 : Nat) : Int) ≤ 300))) == false) = true; rw [decide_eq_true (by omega)]; rfl, trivial⟩
def Tail8 : Prop := ∀ (s : Sv) (d r w : Int), s.Ok → B16 w → 0 ≤ d → d ≤ 7 → d ≠ 6 → 0 ≤ r → r ≤ 7 → r ≠ 6 → s.pc = 0 → MWp Try.prog (st8 s d r w (g8 d r w) (l8 d r w)) (fun u _ => u = .bool true)
theorem gLO8 : ctxO.fn.get 8 = some Try.f8 := by kernel_rfl
set_option maxRecDepth 100000 in
theorem e8_NN (s : Sv) (n k : Nat) (f fa fb : Nat → Int) (d r w : Int) : haltH [1, 2, 3, 4, 9] [0, 1, 2, 10, 9, 4] 16 rd8 (Ly.run ctxO 149 [(13, true), (2, true), (2, true), (2, true)] (Ly.start Try.f8 [svV (pc0 s) nilS nilS, .int .u8 d, .int .u8 r, .int .u16 w] (mkH [some (ints .u8 f n), some (bytes2 fa fb k)]))) =
  (true, [tD d, tD r, tE d, tE r], true, (Try.f8, k8, some 88, 2), v8 2 10 d r w, (true, true, true), [some (ints .u8 f n), some (bytes2 fa fb k), some (.cells (sCells (pc0 s) nilS (.slice (some ⟨4, 0, none⟩) 8 8)) 29), some (.cells (cellsPb 9 0 (mOf (pc0 s)) nilV nilV) 60), some (memL (gs (g8 d r w))), some (.cells (l8 d r w) 33)]) := by kernel_rfl
theorem f8_NN (s : Sv) (n k : Nat) (f fa fb : Nat → Int) (d r w : Int) (H : Heap) : formOf [1, 2, 3, 4, 9] [0, 1, 2, 10, 9, 4] (atSt Try.f8 k8 (some 88) 2 (v8 2 10 d r w) (vH [0, 1, 2, 10, 9, 4] [none, none, some (.cells (sCells (pc0 s) anyV (.slice (some ⟨4, 0, none⟩) 8 8)) 29), some (.cells (cellsPb 9 0 (mOf (pc0 s)) anyV nilV) 60), some (memL (g8 d r w)), some (.cells (l8 d r w) 33)] 16)) = (true, (Try.f8, k8, some 88, 2), v8 2 3 d r w, os8 (pc0 s) (g8 d r w) (l8 d r w)) := by kernel_rfl
theorem c8_NN (ht : Tail8) (s : Sv) (n k : Nat) (f fa fb : Nat → Int) (d r w : Int) (hs : s.Ok) (hw : B16 w) (h1 : 0 ≤ d) (h2 : d ≤ 7) (hd6 : d ≠ 6) (h3 : 0 ≤ r) (h4 : r ≤ 7) (hr6 : r ≠ 6) (hp : s.pc = 0) : LCalls Try.prog 8 [svV s nilS nilS, .int .u8 d, .int .u8 r, .int .u16 w] (mkH [some (ints .u8 f n), some (bytes2 fa fb k)]) (fun u _ => u = .bool true) := by
  have es : s = pc0 s := by cases s; simp only at hp; subst hp; rfl
  rw [es]
  refine LCalls_of ctxO_ok gLO8 (by kernel_rfl) (MWp.haltH ctxO_ok _ _ _ _ (e8_NN s n k f fa fb d r w) (tr_cons (tD_ok (by omega)) (tr_cons (tD_ok (by omega)) (tr_cons (tE_ok hd6) (tr_cons (tE_ok hr6) trivial)))) ?_)
  intro H hnx hl hc hos
  rw [gs_eq] at hos
  refine MWp.keepB (nx := 16) (os' := [none, none, some (.cells (sCells (pc0 s) anyV (.slice (some ⟨4, 0, none⟩) 8 8)) 29), some (.cells (cellsPb 9 0 (mOf (pc0 s)) anyV nilV) 60), some (memL (g8 d r w)), some (.cells (l8 d r w) 33)]) [1, 2, 3, 4, 9] hnx hl hos ⟨trivial, trivial, OWo.cells (vwS (VW.any _) (VW.refl _)), OWo.cells (vwCells (VW.any _) (VW.refl _)), OWo.refl _, OWo.refl _, trivial⟩ (by decide) (f8_NN s n k f fa fb d r w H) plain_os8 ?_
  exact ht (pc0 s) d r w (by rw [← es]; exact hs) hw h1 h2 hd6 h3 h4 hr6 rfl
set_option maxRecDepth 100000 in
theorem e8_NE (s : Sv) (n k : Nat) (f fa fb : Nat → Int) (d r w : Int) : haltH [1, 2, 3, 4, 9] [0, 1, 2, 10, 9, 4] 16 rd8 (Ly.run ctxO 149 [(13, true), (2, true), (2, true), (2, true)] (Ly.start Try.f8 [svV (pc0 s) nilS (sls 1 0), .int .u8 d, .int .u8 r, .int .u16 w] (mkH [some (ints .u8 f n), some (bytes2 fa fb 0)]))) =
  (true, [tD d, tD r, tE d, tE r], true, (Try.f8, k8, some 88, 2), v8 2 10 d r w, (true, true, true), [some (ints .u8 f n), some (bytes2 fa fb 0), some (.cells (sCells (pc0 s) nilS (.slice (some ⟨4, 0, none⟩) 8 8)) 29), some (.cells (cellsPb 9 0 (mOf (pc0 s)) nilV nilV) 60), some (memL (gs (g8 d r w))), some (.cells (l8 d r w) 33)]) := by kernel_rfl
theorem f8_NE (s : Sv) (n k : Nat) (f fa fb : Nat → Int) (d r w : Int) (H : Heap) : formOf [1, 2, 3, 4, 9] [0, 1, 2, 10, 9, 4] (atSt Try.f8 k8 (some 88) 2 (v8 2 10 d r w) (vH [0, 1, 2, 10, 9, 4] [none, none, some (.cells (sCells (pc0 s) anyV (.slice (some ⟨4, 0, none⟩) 8 8)) 29), some (.cells (cellsPb 9 0 (mOf (pc0 s)) anyV nilV) 60), some (memL (g8 d r w)), some (.cells (l8 d r w) 33)] 16)) = (true, (Try.f8, k8, some 88, 2), v8 2 3 d r w, os8 (pc0 s) (g8 d r w) (l8 d r w)) := by kernel_rfl
theorem c8_NE (ht : Tail8) (s : Sv) (n k : Nat) (f fa fb : Nat → Int) (d r w : Int) (hs : s.Ok) (hw : B16 w) (h1 : 0 ≤ d) (h2 : d ≤ 7) (hd6 : d ≠ 6) (h3 : 0 ≤ r) (h4 : r ≤ 7) (hr6 : r ≠ 6) (hp : s.pc = 0) : LCalls Try.prog 8 [svV s nilS (sls 1 0), .int .u8 d, .int .u8 r, .int .u16 w] (mkH [some (ints .u8 f n), some (bytes2 fa fb 0)]) (fun u _ => u = .bool true) := by
  have es : s = pc0 s := by cases s; simp only at hp; subst hp; rfl
  rw [es]
  refine LCalls_of ctxO_ok gLO8 (by kernel_rfl) (MWp.haltH ctxO_ok _ _ _ _ (e8_NE s n k f fa fb d r w) (tr_cons (tD_ok (by omega)) (tr_cons (tD_ok (by omega)) (tr_cons (tE_ok hd6) (tr_cons (tE_ok hr6) trivial)))) ?_)
  intro H hnx hl hc hos
  rw [gs_eq] at hos
  refine MWp.keepB (nx := 16) (os' := [none, none, some (.cells (sCells (pc0 s) anyV (.slice (some ⟨4, 0, none⟩) 8 8)) 29), some (.cells (cellsPb 9 0 (mOf (pc0 s)) anyV nilV) 60), some (memL (g8 d r w)), some (.cells (l8 d r w) 33)]) [1, 2, 3, 4, 9] hnx hl hos ⟨trivial, trivial, OWo.cells (vwS (VW.any _) (VW.refl _)), OWo.cells (vwCells (VW.any _) (VW.refl _)), OWo.refl _, OWo.refl _, trivial⟩ (by decide) (f8_NE s n k f fa fb d r w H) plain_os8 ?_
  exact ht (pc0 s) d r w (by rw [← es]; exact hs) hw h1 h2 hd6 h3 h4 hr6 rfl
set_option maxRecDepth 100000 in
theorem e8_NR (s : Sv) (n k : Nat) (f fa fb : Nat → Int) (d r w : Int) : haltH [1, 2, 3, 4, 9] [0, 1, 2, 10, 9, 4] 16 rd8 (Ly.run ctxO 149 [(5, true), (7, true), (2, true), (2, true), (2, true)] (Ly.start Try.f8 [svV (pc0 s) nilS (sls 1 (k + 1)), .int .u8 d, .int .u8 r, .int .u16 w] (mkH [some (ints .u8 f n), some (bytes2 fa fb (k + 1))]))) =
  (true, [tLn8 k, tD d, tD r, tE d, tE r], true, (Try.f8, k8, some 88, 2), v8 2 10 d r w, (true, true, true), [some (ints .u8 f n), some (bytes2 fa fb (k + 1)), some (.cells (sCells (pc0 s) nilS (.slice (some ⟨4, 0, none⟩) 8 8)) 29), some (.cells (cellsPb 9 0 (mOf (pc0 s)) nilV nilV) 60), some (memL (gs (g8 d r w))), some (.cells (l8 d r w) 33)]) := by kernel_rfl
theorem f8_NR (s : Sv) (n k : Nat) (f fa fb : Nat → Int) (d r w : Int) (H : Heap) : formOf [1, 2, 3, 4, 9] [0, 1, 2, 10, 9, 4] (atSt Try.f8 k8 (some 88) 2 (v8 2 10 d r w) (vH [0, 1, 2, 10, 9, 4] [none, none, some (.cells (sCells (pc0 s) anyV (.slice (some ⟨4, 0, none⟩) 8 8)) 29), some (.cells (cellsPb 9 0 (mOf (pc0 s)) anyV nilV) 60), some (memL (g8 d r w)), some (.cells (l8 d r w) 33)] 16)) = (true, (Try.f8, k8, some 88, 2), v8 2 3 d r w, os8 (pc0 s) (g8 d r w) (l8 d r w)) := by kernel_rfl
theorem c8_NR (ht : Tail8) (s : Sv) (n k : Nat) (f fa fb : Nat → Int) (d r w : Int) (hs : s.Ok) (hw : B16 w) (h1 : 0 ≤ d) (h2 : d ≤ 7) (hd6 : d ≠ 6) (h3 : 0 ≤ r) (h4 : r ≤ 7) (hr6 : r ≠ 6) (hp : s.pc = 0) (hk : k + 1 ≤ 300) : LCalls Try.prog 8 [svV s nilS (sls 1 (k + 1)), .int .u8 d, .int .u8 r, .int .u16 w] (mkH [some (ints .u8 f n), some (bytes2 fa fb (k + 1))]) (fun u _ => u = .bool true) := by
  have es : s = pc0 s := by cases s; simp only at hp; subst hp; rfl
  rw [es]
  refine LCalls_of ctxO_ok gLO8 (by kernel_rfl) (MWp.haltH ctxO_ok _ _ _ _ (e8_NR s n k f fa fb d r w) (tr_cons (tLn8_ok (by omega)) (tr_cons (tD_ok (by omega)) (tr_cons (tD_ok (by omega)) (tr_cons (tE_ok hd6) (tr_cons (tE_ok hr6) trivial))))) ?_)
  intro H hnx hl hc hos
  rw [gs_eq] at hos
  refine MWp.keepB (nx := 16) (os' := [none, none, some (.cells (sCells (pc0 s) anyV (.slice (some ⟨4, 0, none⟩) 8 8)) 29), some (.cells (cellsPb 9 0 (mOf (pc0 s)) anyV nilV) 60), some (memL (g8 d r w)), some (.cells (l8 d r w) 33)]) [1, 2, 3, 4, 9] hnx hl hos ⟨trivial, trivial, OWo.cells (vwS (VW.any _) (VW.refl _)), OWo.cells (vwCells (VW.any _) (VW.refl _)), OWo.refl _, OWo.refl _, trivial⟩ (by decide) (f8_NR s n k f fa fb d r w H) plain_os8 ?_
  exact ht (pc0 s) d r w (by rw [← es]; exact hs) hw h1 h2 hd6 h3 h4 hr6 rfl
set_option maxRecDepth 100000 in
theorem e8_EN (s : Sv) (n k : Nat) (f fa fb : Nat → Int) (d r w : Int) : haltH [1, 2, 3, 4, 9] [0, 1, 2, 11, 10, 4] 17 rd8 (Ly.run ctxO 149 [(13, true), (2, true), (2, true), (2, true)] (Ly.start Try.f8 [svV (pc0 s) (sl 0 0) nilS, .int .u8 d, .int .u8 r, .int .u16 w] (mkH [some (ints .u8 f 0), some (bytes2 fa fb k)]))) =
  (true, [tD d, tD r, tE d, tE r], true, (Try.f8, k8, some 88, 2), v8 2 11 d r w, (true, true, true), [some (ints .u8 f 0), some (bytes2 fa fb k), some (.cells (sCells (pc0 s) (sl 0 0) (.slice (some ⟨4, 0, none⟩) 8 8)) 29), some (.cells (cellsPb 10 0 (mOf (pc0 s)) (.slice (some ⟨8, 0, none⟩) 0 0) nilV) 60), some (memL (gs (g8 d r w))), some (.cells (l8 d r w) 33)]) := by kernel_rfl
theorem f8_EN (s : Sv) (n k : Nat) (f fa fb : Nat → Int) (d r w : Int) (H : Heap) : formOf [1, 2, 3, 4, 9] [0, 1, 2, 11, 10, 4] (atSt Try.f8 k8 (some 88) 2 (v8 2 11 d r w) (vH [0, 1, 2, 11, 10, 4] [none, none, some (.cells (sCells (pc0 s) anyV (.slice (some ⟨4, 0, none⟩) 8 8)) 29), some (.cells (cellsPb 10 0 (mOf (pc0 s)) anyV nilV) 60), some (memL (g8 d r w)), some (.cells (l8 d r w) 33)] 17)) = (true, (Try.f8, k8, some 88, 2), v8 2 3 d r w, os8 (pc0 s) (g8 d r w) (l8 d r w)) := by kernel_rfl
theorem c8_EN (ht : Tail8) (s : Sv) (n k : Nat) (f fa fb : Nat → Int) (d r w : Int) (hs : s.Ok) (hw : B16 w) (h1 : 0 ≤ d) (h2 : d ≤ 7) (hd6 : d ≠ 6) (h3 : 0 ≤ r) (h4 : r ≤ 7) (hr6 : r ≠ 6) (hp : s.pc = 0) : LCalls Try.prog 8 [svV s (sl 0 0) nilS, .int .u8 d, .int .u8 r, .int .u16 w] (mkH [some (ints .u8 f 0), some (bytes2 fa fb k)]) (fun u _ => u = .bool true) := by
  have es : s = pc0 s := by cases s; simp only at hp; subst hp; rfl
  rw [es]
  refine LCalls_of ctxO_ok gLO8 (by kernel_rfl) (MWp.haltH ctxO_ok _ _ _ _ (e8_EN s n k f fa fb d r w) (tr_cons (tD_ok (by omega)) (tr_cons (tD_ok (by omega)) (tr_cons (tE_ok hd6) (tr_cons (tE_ok hr6) trivial)))) ?_)
  intro H hnx hl hc hos
  rw [gs_eq] at hos
  refine MWp.keepB (nx := 17) (os' := [none, none, some (.cells (sCells (pc0 s) anyV (.slice (some ⟨4, 0, none⟩) 8 8)) 29), some (.cells (cellsPb 10 0 (mOf (pc0 s)) anyV nilV) 60), some (memL (g8 d r w)), some (.cells (l8 d r w) 33)]) [1, 2, 3, 4, 9] hnx hl hos ⟨trivial, trivial, OWo.cells (vwS (VW.any _) (VW.refl _)), OWo.cells (vwCells (VW.any _) (VW.refl _)), OWo.refl _, OWo.refl _, trivial⟩ (by decide) (f8_EN s n k f fa fb d r w H) plain_os8 ?_
  exact ht (pc0 s) d r w (by rw [← es]; exact hs) hw h1 h2 hd6 h3 h4 hr6 rfl
set_option maxRecDepth 100000 in
theorem e8_EE (s : Sv) (n k : Nat) (f fa fb : Nat → Int) (d r w : Int) : haltH [1, 2, 3, 4, 9] [0, 1, 2, 11, 10, 4] 17 rd8 (Ly.run ctxO 149 [(13, true), (2, true), (2, true), (2, true)] (Ly.start Try.f8 [svV (pc0 s) (sl 0 0) (sls 1 0), .int .u8 d, .int .u8 r, .int .u16 w] (mkH [some (ints .u8 f 0), some (bytes2 fa fb 0)]))) =
  (true, [tD d, tD r, tE d, tE r], true, (Try.f8, k8, some 88, 2), v8 2 11 d r w, (true, true, true), [some (ints .u8 f 0), some (bytes2 fa fb 0), some (.cells (sCells (pc0 s) (sl 0 0) (.slice (some ⟨4, 0, none⟩) 8 8)) 29), some (.cells (cellsPb 10 0 (mOf (pc0 s)) (.slice (some ⟨8, 0, none⟩) 0 0) nilV) 60), some (memL (gs (g8 d r w))), some (.cells (l8 d r w) 33)]) := by kernel_rfl
theorem f8_EE (s : Sv) (n k : Nat) (f fa fb : Nat → Int) (d r w : Int) (H : Heap) : formOf [1, 2, 3, 4, 9] [0, 1, 2, 11, 10, 4] (atSt Try.f8 k8 (some 88) 2 (v8 2 11 d r w) (vH [0, 1, 2, 11, 10, 4] [none, none, some (.cells (sCells (pc0 s) anyV (.slice (some ⟨4, 0, none⟩) 8 8)) 29), some (.cells (cellsPb 10 0 (mOf (pc0 s)) anyV nilV) 60), some (memL (g8 d r w)), some (.cells (l8 d r w) 33)] 17)) = (true, (Try.f8, k8, some 88, 2), v8 2 3 d r w, os8 (pc0 s) (g8 d r w) (l8 d r w)) := by kernel_rfl
theorem c8_EE (ht : Tail8) (s : Sv) (n k : Nat) (f fa fb : Nat → Int) (d r w : Int) (hs : s.Ok) (hw : B16 w) (h1 : 0 ≤ d) (h2 : d ≤ 7) (hd6 : d ≠ 6) (h3 : 0 ≤ r) (h4 : r ≤ 7) (hr6 : r ≠ 6) (hp : s.pc = 0) : LCalls Try.prog 8 [svV s (sl 0 0) (sls 1 0), .int .u8 d, .int .u8 r, .int .u16 w] (mkH [some (ints .u8 f 0), some (bytes2 fa fb 0)]) (fun u _ => u = .bool true) := by
  have es : s = pc0 s := by cases s; simp only at hp; subst hp; rfl
  rw [es]
  refine LCalls_of ctxO_ok gLO8 (by kernel_rfl) (MWp.haltH ctxO_ok _ _ _ _ (e8_EE s n k f fa fb d r w) (tr_cons (tD_ok (by omega)) (tr_cons (tD_ok (by omega)) (tr_cons (tE_ok hd6) (tr_cons (tE_ok hr6) trivial)))) ?_)
  intro H hnx hl hc hos
  rw [gs_eq] at hos
  refine MWp.keepB (nx := 17) (os' := [none, none, some (.cells (sCells (pc0 s) anyV (.slice (some ⟨4, 0, none⟩) 8 8)) 29), some (.cells (cellsPb 10 0 (mOf (pc0 s)) anyV nilV) 60), some (memL (g8 d r w)), some (.cells (l8 d r w) 33)]) [1, 2, 3, 4, 9] hnx hl hos ⟨trivial, trivial, OWo.cells (vwS (VW.any _) (VW.refl _)), OWo.cells (vwCells (VW.any _) (VW.refl _)), OWo.refl _, OWo.refl _, trivial⟩ (by decide) (f8_EE s n k f fa fb d r w H) plain_os8 ?_
  exact ht (pc0 s) d r w (by rw [← es]; exact hs) hw h1 h2 hd6 h3 h4 hr6 rfl
set_option maxRecDepth 100000 in
theorem e8_ER (s : Sv) (n k : Nat) (f fa fb : Nat → Int) (d r w : Int) : haltH [1, 2, 3, 4, 9] [0, 1, 2, 11, 10, 4] 17 rd8 (Ly.run ctxO 149 [(5, true), (7, true), (2, true), (2, true), (2, true)] (Ly.start Try.f8 [svV (pc0 s) (sl 0 0) (sls 1 (k + 1)), .int .u8 d, .int .u8 r, .int .u16 w] (mkH [some (ints .u8 f 0), some (bytes2 fa fb (k + 1))]))) =
  (true, [tLn8 k, tD d, tD r, tE d, tE r], true, (Try.f8, k8, some 88, 2), v8 2 11 d r w, (true, true, true), [some (ints .u8 f 0), some (bytes2 fa fb (k + 1)), some (.cells (sCells (pc0 s) (sl 0 0) (.slice (some ⟨4, 0, none⟩) 8 8)) 29), some (.cells (cellsPb 10 0 (mOf (pc0 s)) (.slice (some ⟨8, 0, none⟩) 0 0) nilV) 60), some (memL (gs (g8 d r w))), some (.cells (l8 d r w) 33)]) := by kernel_rfl
theorem f8_ER (s : Sv) (n k : Nat) (f fa fb : Nat → Int) (d r w : Int) (H : Heap) : formOf [1, 2, 3, 4, 9] [0, 1, 2, 11, 10, 4] (atSt Try.f8 k8 (some 88) 2 (v8 2 11 d r w) (vH [0, 1, 2, 11, 10, 4] [none, none, some (.cells (sCells (pc0 s) anyV (.slice (some ⟨4, 0, none⟩) 8 8)) 29), some (.cells (cellsPb 10 0 (mOf (pc0 s)) anyV nilV) 60), some (memL (g8 d r w)), some (.cells (l8 d r w) 33)] 17)) = (true, (Try.f8, k8, some 88, 2), v8 2 3 d r w, os8 (pc0 s) (g8 d r w) (l8 d r w)) := by kernel_rfl
theorem c8_ER (ht : Tail8) (s : Sv) (n k : Nat) (f fa fb : Nat → Int) (d r w : Int) (hs : s.Ok) (hw : B16 w) (h1 : 0 ≤ d) (h2 : d ≤ 7) (hd6 : d ≠ 6) (h3 : 0 ≤ r) (h4 : r ≤ 7) (hr6 : r ≠ 6) (hp : s.pc = 0) (hk : k + 1 ≤ 300) : LCalls Try.prog 8 [svV s (sl 0 0) (sls 1 (k + 1)), .int .u8 d, .int .u8 r, .int .u16 w] (mkH [some (ints .u8 f 0), some (bytes2 fa fb (k + 1))]) (fun u _ => u = .bool true) := by
  have es : s = pc0 s := by cases s; simp only at hp; subst hp; rfl
  rw [es]
  refine LCalls_of ctxO_ok gLO8 (by kernel_rfl) (MWp.haltH ctxO_ok _ _ _ _ (e8_ER s n k f fa fb d r w) (tr_cons (tLn8_ok (by omega)) (tr_cons (tD_ok (by omega)) (tr_cons (tD_ok (by omega)) (tr_cons (tE_ok hd6) (tr_cons (tE_ok hr6) trivial))))) ?_)
  intro H hnx hl hc hos
  rw [gs_eq] at hos
  refine MWp.keepB (nx := 17) (os' := [none, none, some (.cells (sCells (pc0 s) anyV (.slice (some ⟨4, 0, none⟩) 8 8)) 29), some (.cells (cellsPb 10 0 (mOf (pc0 s)) anyV nilV) 60), some (memL (g8 d r w)), some (.cells (l8 d r w) 33)]) [1, 2, 3, 4, 9] hnx hl hos ⟨trivial, trivial, OWo.cells (vwS (VW.any _) (VW.refl _)), OWo.cells (vwCells (VW.any _) (VW.refl _)), OWo.refl _, OWo.refl _, trivial⟩ (by decide) (f8_ER s n k f fa fb d r w H) plain_os8 ?_
  exact ht (pc0 s) d r w (by rw [← es]; exact hs) hw h1 h2 hd6 h3 h4 hr6 rfl
set_option maxRecDepth 100000 in
theorem e8_RN (s : Sv) (n k : Nat) (f fa fb : Nat → Int) (d r w : Int) : haltH [1, 2, 3, 4, 9] [0, 1, 2, 12, 11, 4] 18 rd8 (Ly.run ctxO 149 [(0, true), (9, true), (2, true), (2, true), (2, true), (2, true), (21, false), (1, true)] (Ly.start Try.f8 [svV (pc0 s) (sl 0 (n + 1)) nilS, .int .u8 d, .int .u8 r, .int .u16 w] (mkH [some (ints .u8 f (n + 1)), some (bytes2 fa fb k)]))) =
  (true, [tLi n, tMe n, tD d, tD r, tE d, tE r, tMx n, tR1 n], true, (Try.f8, k8, some 88, 2), v8 2 12 d r w, (true, true, true), [some (ints .u8 f (n + 1)), some (bytes2 fa fb k), some (.cells (sCells (pc0 s) (sl 0 (n + 1)) (.slice (some ⟨4, 0, none⟩) 8 8)) 29), some (.cells (cellsPb 11 0 (mOf (pc0 s)) (inV 9 0 (0 + (n + 1))) nilV) 60), some (memL (gs (g8 d r w))), some (.cells (l8 d r w) 33)]) := by kernel_rfl
theorem f8_RN (s : Sv) (n k : Nat) (f fa fb : Nat → Int) (d r w : Int) (H : Heap) : formOf [1, 2, 3, 4, 9] [0, 1, 2, 12, 11, 4] (atSt Try.f8 k8 (some 88) 2 (v8 2 12 d r w) (vH [0, 1, 2, 12, 11, 4] [none, none, some (.cells (sCells (pc0 s) anyV (.slice (some ⟨4, 0, none⟩) 8 8)) 29), some (.cells (cellsPb 11 0 (mOf (pc0 s)) anyV nilV) 60), some (memL (g8 d r w)), some (.cells (l8 d r w) 33)] 18)) = (true, (Try.f8, k8, some 88, 2), v8 2 3 d r w, os8 (pc0 s) (g8 d r w) (l8 d r w)) := by kernel_rfl
theorem c8_RN (ht : Tail8) (s : Sv) (n k : Nat) (f fa fb : Nat → Int) (d r w : Int) (hs : s.Ok) (hw : B16 w) (h1 : 0 ≤ d) (h2 : d ≤ 7) (hd6 : d ≠ 6) (h3 : 0 ≤ r) (h4 : r ≤ 7) (hr6 : r ≠ 6) (hp : s.pc = 0) (hn : n + 1 ≤ 256) : LCalls Try.prog 8 [svV s (sl 0 (n + 1)) nilS, .int .u8 d, .int .u8 r, .int .u16 w] (mkH [some (ints .u8 f (n + 1)), some (bytes2 fa fb k)]) (fun u _ => u = .bool true) := by
  have es : s = pc0 s := by cases s; simp only at hp; subst hp; rfl
  rw [es]
  refine LCalls_of ctxO_ok gLO8 (by kernel_rfl) (MWp.haltH ctxO_ok _ _ _ _ (e8_RN s n k f fa fb d r w) (tr_cons (tLi_ok (by omega)) (tr_cons (tMe_ok (by omega)) (tr_cons (tD_ok (by omega)) (tr_cons (tD_ok (by omega)) (tr_cons (tE_ok hd6) (tr_cons (tE_ok hr6) (tr_cons (tMx_ok hn) (tr_cons (tR1_ok (by omega)) trivial)))))))) ?_)
  intro H hnx hl hc hos
  rw [gs_eq] at hos
  refine MWp.keepB (nx := 18) (os' := [none, none, some (.cells (sCells (pc0 s) anyV (.slice (some ⟨4, 0, none⟩) 8 8)) 29), some (.cells (cellsPb 11 0 (mOf (pc0 s)) anyV nilV) 60), some (memL (g8 d r w)), some (.cells (l8 d r w) 33)]) [1, 2, 3, 4, 9] hnx hl hos ⟨trivial, trivial, OWo.cells (vwS (VW.any _) (VW.refl _)), OWo.cells (vwCells (VW.any _) (VW.refl _)), OWo.refl _, OWo.refl _, trivial⟩ (by decide) (f8_RN s n k f fa fb d r w H) plain_os8 ?_
  exact ht (pc0 s) d r w (by rw [← es]; exact hs) hw h1 h2 hd6 h3 h4 hr6 rfl
set_option maxRecDepth 100000 in
theorem e8_RE (s : Sv) (n k : Nat) (f fa fb : Nat → Int) (d r w : Int) : haltH [1, 2, 3, 4, 9] [0, 1, 2, 12, 11, 4] 18 rd8 (Ly.run ctxO 149 [(0, true), (9, true), (2, true), (2, true), (2, true), (2, true), (21, false), (1, true)] (Ly.start Try.f8 [svV (pc0 s) (sl 0 (n + 1)) (sls 1 0), .int .u8 d, .int .u8 r, .int .u16 w] (mkH [some (ints .u8 f (n + 1)), some (bytes2 fa fb 0)]))) =
  (true, [tLi n, tMe n, tD d, tD r, tE d, tE r, tMx n, tR1 n], true, (Try.f8, k8, some 88, 2), v8 2 12 d r w, (true, true, true), [some (ints .u8 f (n + 1)), some (bytes2 fa fb 0), some (.cells (sCells (pc0 s) (sl 0 (n + 1)) (.slice (some ⟨4, 0, none⟩) 8 8)) 29), some (.cells (cellsPb 11 0 (mOf (pc0 s)) (inV 9 0 (0 + (n + 1))) nilV) 60), some (memL (gs (g8 d r w))), some (.cells (l8 d r w) 33)]) := by kernel_rfl
theorem f8_RE (s : Sv) (n k : Nat) (f fa fb : Nat → Int) (d r w : Int) (H : Heap) : formOf [1, 2, 3, 4, 9] [0, 1, 2, 12, 11, 4] (atSt Try.f8 k8 (some 88) 2 (v8 2 12 d r w) (vH [0, 1, 2, 12, 11, 4] [none, none, some (.cells (sCells (pc0 s) anyV (.slice (some ⟨4, 0, none⟩) 8 8)) 29), some (.cells (cellsPb 11 0 (mOf (pc0 s)) anyV nilV) 60), some (memL (g8 d r w)), some (.cells (l8 d r w) 33)] 18)) = (true, (Try.f8, k8, some 88, 2), v8 2 3 d r w, os8 (pc0 s) (g8 d r w) (l8 d r w)) := by kernel_rfl
theorem c8_RE (ht : Tail8) (s : Sv) (n k : Nat) (f fa fb : Nat → Int) (d r w : Int) (hs : s.Ok) (hw : B16 w) (h1 : 0 ≤ d) (h2 : d ≤ 7) (hd6 : d ≠ 6) (h3 : 0 ≤ r) (h4 : r ≤ 7) (hr6 : r ≠ 6) (hp : s.pc = 0) (hn : n + 1 ≤ 256) : LCalls Try.prog 8 [svV s (sl 0 (n + 1)) (sls 1 0), .int .u8 d, .int .u8 r, .int .u16 w] (mkH [some (ints .u8 f (n + 1)), some (bytes2 fa fb 0)]) (fun u _ => u = .bool true) := by
  have es : s = pc0 s := by cases s; simp only at hp; subst hp; rfl
  rw [es]
  refine LCalls_of ctxO_ok gLO8 (by kernel_rfl) (MWp.haltH ctxO_ok _ _ _ _ (e8_RE s n k f fa fb d r w) (tr_cons (tLi_ok (by omega)) (tr_cons (tMe_ok (by omega)) (tr_cons (tD_ok (by omega)) (tr_cons (tD_ok (by omega)) (tr_cons (tE_ok hd6) (tr_cons (tE_ok hr6) (tr_cons (tMx_ok hn) (tr_cons (tR1_ok (by omega)) trivial)))))))) ?_)
  intro H hnx hl hc hos
  rw [gs_eq] at hos
  refine MWp.keepB (nx := 18) (os' := [none, none, some (.cells (sCells (pc0 s) anyV (.slice (some ⟨4, 0, none⟩) 8 8)) 29), some (.cells (cellsPb 11 0 (mOf (pc0 s)) anyV nilV) 60), some (memL (g8 d r w)), some (.cells (l8 d r w) 33)]) [1, 2, 3, 4, 9] hnx hl hos ⟨trivial, trivial, OWo.cells (vwS (VW.any _) (VW.refl _)), OWo.cells (vwCells (VW.any _) (VW.refl _)), OWo.refl _, OWo.refl _, trivial⟩ (by decide) (f8_RE s n k f fa fb d r w H) plain_os8 ?_
  exact ht (pc0 s) d r w (by rw [← es]; exact hs) hw h1 h2 hd6 h3 h4 hr6 rfl
set_option maxRecDepth 100000 in
theorem e8_RR (s : Sv) (n k : Nat) (f fa fb : Nat → Int) (d r w : Int) : haltH [1, 2, 3, 4, 9] [0, 1, 2, 12, 11, 4] 18 rd8 (Ly.run ctxO 149 [(0, true), (4, true), (4, true), (2, true), (2, true), (2, true), (2, true), (21, false), (1, true)] (Ly.start Try.f8 [svV (pc0 s) (sl 0 (n + 1)) (sls 1 (k + 1)), .int .u8 d, .int .u8 r, .int .u16 w] (mkH [some (ints .u8 f (n + 1)), some (bytes2 fa fb (k + 1))]))) =
  (true, [tLi n, tLn8 k, tMe n, tD d, tD r, tE d, tE r, tMx n, tR1 n], true, (Try.f8, k8, some 88, 2), v8 2 12 d r w, (true, true, true), [some (ints .u8 f (n + 1)), some (bytes2 fa fb (k + 1)), some (.cells (sCells (pc0 s) (sl 0 (n + 1)) (.slice (some ⟨4, 0, none⟩) 8 8)) 29), some (.cells (cellsPb 11 0 (mOf (pc0 s)) (inV 9 0 (0 + (n + 1))) nilV) 60), some (memL (gs (g8 d r w))), some (.cells (l8 d r w) 33)]) := by kernel_rfl
theorem f8_RR (s : Sv) (n k : Nat) (f fa fb : Nat → Int) (d r w : Int) (H : Heap) : formOf [1, 2, 3, 4, 9] [0, 1, 2, 12, 11, 4] (atSt Try.f8 k8 (some 88) 2 (v8 2 12 d r w) (vH [0, 1, 2, 12, 11, 4] [none, none, some (.cells (sCells (pc0 s) anyV (.slice (some ⟨4, 0, none⟩) 8 8)) 29), some (.cells (cellsPb 11 0 (mOf (pc0 s)) anyV nilV) 60), some (memL (g8 d r w)), some (.cells (l8 d r w) 33)] 18)) = (true, (Try.f8, k8, some 88, 2), v8 2 3 d r w, os8 (pc0 s) (g8 d r w) (l8 d r w)) := by kernel_rfl
theorem c8_RR (ht : Tail8) (s : Sv) (n k : Nat) (f fa fb : Nat → Int) (d r w : Int) (hs : s.Ok) (hw : B16 w) (h1 : 0 ≤ d) (h2 : d ≤ 7) (hd6 : d ≠ 6) (h3 : 0 ≤ r) (h4 : r ≤ 7) (hr6 : r ≠ 6) (hp : s.pc = 0) (hn : n + 1 ≤ 256) (hk : k + 1 ≤ 300) : LCalls Try.prog 8 [svV s (sl 0 (n + 1)) (sls 1 (k + 1)), .int .u8 d, .int .u8 r, .int .u16 w] (mkH [some (ints .u8 f (n + 1)), some (bytes2 fa fb (k + 1))]) (fun u _ => u = .bool true) := by
  have es : s = pc0 s := by cases s; simp only at hp; subst hp; rfl
  rw [es]
  refine LCalls_of ctxO_ok gLO8 (by kernel_rfl) (MWp.haltH ctxO_ok _ _ _ _ (e8_RR s n k f fa fb d r w) (tr_cons (tLi_ok (by omega)) (tr_cons (tLn8_ok (by omega)) (tr_cons (tMe_ok (by omega)) (tr_cons (tD_ok (by omega)) (tr_cons (tD_ok (by omega)) (tr_cons (tE_ok hd6) (tr_cons (tE_ok hr6) (tr_cons (tMx_ok hn) (tr_cons (tR1_ok (by omega)) trivial))))))))) ?_)
  intro H hnx hl hc hos
  rw [gs_eq] at hos
  refine MWp.keepB (nx := 18) (os' := [none, none, some (.cells (sCells (pc0 s) anyV (.slice (some ⟨4, 0, none⟩) 8 8)) 29), some (.cells (cellsPb 11 0 (mOf (pc0 s)) anyV nilV) 60), some (memL (g8 d r w)), some (.cells (l8 d r w) 33)]) [1, 2, 3, 4, 9] hnx hl hos ⟨trivial, trivial, OWo.cells (vwS (VW.any _) (VW.refl _)), OWo.cells (vwCells (VW.any _) (VW.refl _)), OWo.refl _, OWo.refl _, trivial⟩ (by decide) (f8_RR s n k f fa fb d r w H) plain_os8 ?_
  exact ht (pc0 s) d r w (by rw [← es]; exact hs) hw h1 h2 hd6 h3 h4 hr6 rfl
end Go.Proofs.Ytpggoincnebfnaa
namespace Go.Proofs.Ytpggoincnebfnaa
open Go Go.Ly Go.RowKit
def cx8 (l : List Ent) : Ctx := ctxO.withH 13 (stepE l)
theorem cx8_ok {l : List Ent} (h : ∀ e ∈ l, e.Ok) : (cx8 l).Ok Try.prog := ctxO_ok.withH (stepE_good h)
def neM (m w : Mc) : Bool := !((m.r0 == w.r0) && ((m.r1 == w.r1) && ((m.r2 == w.r2) && ((m.r3 == w.r3) && ((m.r4 == w.r4) && ((m.r5 == w.r5) && (((0 : Int) == 0) && ((m.r7 == w.r7) && true))))))))
def prM (m : Mc) (k : Nat) : Int := match k with
  | 0 => or16 (w16 (w16 m.r0 * 256)) (w16 m.r1)
  | 1 => or16 (w16 (w16 m.r2 * 256)) (w16 m.r3)
  | 2 => or16 (w16 (w16 m.r4 * 256)) (w16 m.r5)
  | _ => m.sp
def eqF (m w : Mc) : Bool := (m.fs == w.fs) && ((m.fz == w.fz) && ((m.fx == w.fx) && ((m.fp == w.fp) && ((m.fc == w.fc) && true))))
def t8 (m0 m1 m2 m3 m4 m5 a b : Mc) (g : Nat → Int) (w : Int) (p : Nat) (g2 g3 g4 g5 : Bool) : List (Bool × Bool) := [(cdec (IsMem fun e _ => .int .u8 (g e)), true), (neM m1 a, false), (cdec (IsMem fun e _ => .int .u8 (g e)), true), (g2, true), (neM m2 b, false), (cdec (IsMem fun e _ => .int .u8 (g e)), true), (g3, true), (cdec (IsMem fun e _ => .int .u8 (g e)), true), (g4, true), (cdec (IsMem fun e _ => .int .u8 (g e)), true), (g5, true), ((prM m3 p == w) == true, true), ((prM m4 p == w16 (w + 1)) == true, true), ((prM m5 1 == prM m4 2) == true, true), ((prM m5 2 == prM m4 1) == true, true), (eqF m5 m0 == true, true)]
theorem isMem_ok (g : Nat → Int) : cdec (IsMem fun e _ => .int .u8 (g e)) = true := cdec_true fun _ _ => rfl
theorem hilo {w : Int} (h : B16 w) : 256 * w8 (w.fdiv 256) + w8 w = w := by
  unfold B16 at h
  have : w.fdiv 256 = w / 256 := Int.fdiv_eq_ediv_of_nonneg _ (by omega)
  rw [w8e, w8e, this]; omega
theorem b8hi (n : Int) : B8 (n % 65536 / 256) := by unfold B8; omega
theorem hilo1 (n : Int) : 256 * (n % 65536 / 256) + n % 256 = w16 n := by rw [w16e]; omega
end Go.Proofs.Ytpggoincnebfnaa
namespace Go.Proofs.Ytpggoincnebfnaa
open Go Go.Ly Go.RowKit
section
variable (s : Sv) (w : Int)
def a001 : Mc := Emov00.mf (mOf (pc0 s)) (g8 0 0 w)
def a002 : Mc := Emvi0.mf (a001 s w) (g8 0 0 w)
def a003 : Mc := Elxi0.mf (a002 s w) (g8 0 0 w)
def a004 : Mc := Einx0.mf (a003 s w) (g8 0 0 w)
def a005 : Mc := Exchg.mf (a004 s w) (g8 0 0 w)
set_option maxRecDepth 100000 in
theorem x8_00 : (Ly.run (cx8 [Emov00, Emvi0, Elxi0, Einx0, Exchg]) 3000 [(4, true), (10, false), (3, true), (2, true), (8, false), (2, true), (3, true), (14, true), (4, true), (36, true), (5, true), (10, true), (4, true), (15, true), (15, true), (10, true)] (st8 (pc0 s) 0 0 w (g8 0 0 w) (l8 0 0 w))).out? = some (t8 (mOf (pc0 s)) (a001 s w) (a002 s w) (a003 s w) (a004 s w) (a005 s w) { mOf (pc0 s) with r0 := s.r0 } { mOf (pc0 s) with r0 := w8 w } (g8 0 0 w) w 0 (Emvi0.grd (a001 s w) (g8 0 0 w)) (Elxi0.grd (a002 s w) (g8 0 0 w)) (Einx0.grd (a003 s w) (g8 0 0 w)) (Exchg.grd (a004 s w) (g8 0 0 w)), .bool true) := by kernel_rfl
theorem y8_00 (hs : s.Ok) (hw : B16 w) (u : List (Bool × Bool)) (hu : u = t8 (mOf (pc0 s)) (a001 s w) (a002 s w) (a003 s w) (a004 s w) (a005 s w) { mOf (pc0 s) with r0 := s.r0 } { mOf (pc0 s) with r0 := w8 w } (g8 0 0 w) w 0 (Emvi0.grd (a001 s w) (g8 0 0 w)) (Elxi0.grd (a002 s w) (g8 0 0 w)) (Einx0.grd (a003 s w) (g8 0 0 w)) (Exchg.grd (a004 s w) (g8 0 0 w))) : trusted u := by
  obtain ⟨⟨q0, q1, q2, q3, q4, q5, q6, q7⟩, qs, qp⟩ := hs
  subst hu
  have e0 := hilo hw
  have e1 := hilo1 (w + 1)
  have n1 := b8hi (w + 1)
  have m1 : a001 s w = ⟨s.r0, s.r1, s.r2, s.r3, s.r4, s.r5, s.r7, s.fs, s.fz, s.fx, s.fp, s.fc, s.sp, 1, s.ie, false⟩ := by kernel_rfl
  have m2 : a002 s w = ⟨w8 w, s.r1, s.r2, s.r3, s.r4, s.r5, s.r7, s.fs, s.fz, s.fx, s.fp, s.fc, s.sp, 3, s.ie, false⟩ := by kernel_rfl
  have m3 : a003 s w = ⟨w8 (w.fdiv 256), w8 w, s.r2, s.r3, s.r4, s.r5, s.r7, s.fs, s.fz, s.fx, s.fp, s.fc, s.sp, 6, s.ie, false⟩ := by kernel_rfl
  have m4 : a004 s w = ⟨(256 * w8 (w.fdiv 256) + w8 w + 1) % 65536 / 256, (256 * w8 (w.fdiv 256) + w8 w + 1) % 256, s.r2, s.r3, s.r4, s.r5, s.r7, s.fs, s.fz, s.fx, s.fp, s.fc, s.sp, 7, s.ie, false⟩ := by kernel_rfl
  have m5 : a005 s w = ⟨(256 * w8 (w.fdiv 256) + w8 w + 1) % 65536 / 256, (256 * w8 (w.fdiv 256) + w8 w + 1) % 256, s.r4, s.r5, s.r2, s.r3, s.r7, s.fs, s.fz, s.fx, s.fp, s.fc, s.sp, 8, s.ie, false⟩ := by kernel_rfl
  have g2 : Emvi0.grd (a001 s w) (g8 0 0 w) = inb (w8 w) := by kernel_rfl
  have g3 : Elxi0.grd (a002 s w) (g8 0 0 w) = (inb (w8 w) && inb (w8 (w.fdiv 256))) := by kernel_rfl
  have g4 : Einx0.grd (a003 s w) (g8 0 0 w) = (inb (w8 (w.fdiv 256)) && inb (w8 w)) := by kernel_rfl
  rw [g2, g3, g4, m1, m2, m3, m4, m5, e0]
  simp [t8, isMem_ok, neM, prM, eqF, Exchg, mOf, pc0, *]
theorem z8_00 (hs : s.Ok) (hw : B16 w) : MWp Try.prog (st8 (pc0 s) 0 0 w (g8 0 0 w) (l8 0 0 w)) (fun u _ => u = .bool true) :=
  MWp.out (cx8_ok (by simp [Emov00_ok, Emvi0_ok, Elxi0_ok, Einx0_ok, Exchg_ok])) 3000 _ (x8_00 s w) (y8_00 s w hs hw _ rfl) (fun _ => rfl)
end
section
variable (s : Sv) (w : Int)
def a011 : Mc := Emov01.mf (mOf (pc0 s)) (g8 0 1 w)
def a012 : Mc := Emvi0.mf (a011 s w) (g8 0 1 w)
def a013 : Mc := Elxi0.mf (a012 s w) (g8 0 1 w)
def a014 : Mc := Einx0.mf (a013 s w) (g8 0 1 w)
def a015 : Mc := Exchg.mf (a014 s w) (g8 0 1 w)
set_option maxRecDepth 100000 in
theorem x8_01 : (Ly.run (cx8 [Emov01, Emvi0, Elxi0, Einx0, Exchg]) 3000 [(4, true), (10, false), (3, true), (2, true), (8, false), (2, true), (3, true), (14, true), (4, true), (36, true), (5, true), (10, true), (4, true), (15, true), (15, true), (10, true)] (st8 (pc0 s) 0 1 w (g8 0 1 w) (l8 0 1 w))).out? = some (t8 (mOf (pc0 s)) (a011 s w) (a012 s w) (a013 s w) (a014 s w) (a015 s w) { mOf (pc0 s) with r0 := s.r1 } { mOf (pc0 s) with r0 := w8 w } (g8 0 1 w) w 0 (Emvi0.grd (a011 s w) (g8 0 1 w)) (Elxi0.grd (a012 s w) (g8 0 1 w)) (Einx0.grd (a013 s w) (g8 0 1 w)) (Exchg.grd (a014 s w) (g8 0 1 w)), .bool true) := by kernel_rfl
theorem y8_01 (hs : s.Ok) (hw : B16 w) (u : List (Bool × Bool)) (hu : u = t8 (mOf (pc0 s)) (a011 s w) (a012 s w) (a013 s w) (a014 s w) (a015 s w) { mOf (pc0 s) with r0 := s.r1 } { mOf (pc0 s) with r0 := w8 w } (g8 0 1 w) w 0 (Emvi0.grd (a011 s w) (g8 0 1 w)) (Elxi0.grd (a012 s w) (g8 0 1 w)) (Einx0.grd (a013 s w) (g8 0 1 w)) (Exchg.grd (a014 s w) (g8 0 1 w))) : trusted u := by
  obtain ⟨⟨q0, q1, q2, q3, q4, q5, q6, q7⟩, qs, qp⟩ := hs
  subst hu
  have e0 := hilo hw
  have e1 := hilo1 (w + 1)
  have n1 := b8hi (w + 1)
  have m1 : a011 s w = ⟨s.r1, s.r1, s.r2, s.r3, s.r4, s.r5, s.r7, s.fs, s.fz, s.fx, s.fp, s.fc, s.sp, 1, s.ie, false⟩ := by kernel_rfl
  have m2 : a012 s w = ⟨w8 w, s.r1, s.r2, s.r3, s.r4, s.r5, s.r7, s.fs, s.fz, s.fx, s.fp, s.fc, s.sp, 3, s.ie, false⟩ := by kernel_rfl
  have m3 : a013 s w = ⟨w8 (w.fdiv 256), w8 w, s.r2, s.r3, s.r4, s.r5, s.r7, s.fs, s.fz, s.fx, s.fp, s.fc, s.sp, 6, s.ie, false⟩ := by kernel_rfl
  have m4 : a014 s w = ⟨(256 * w8 (w.fdiv 256) + w8 w + 1) % 65536 / 256, (256 * w8 (w.fdiv 256) + w8 w + 1) % 256, s.r2, s.r3, s.r4, s.r5, s.r7, s.fs, s.fz, s.fx, s.fp, s.fc, s.sp, 7, s.ie, false⟩ := by kernel_rfl
  have m5 : a015 s w = ⟨(256 * w8 (w.fdiv 256) + w8 w + 1) % 65536 / 256, (256 * w8 (w.fdiv 256) + w8 w + 1) % 256, s.r4, s.r5, s.r2, s.r3, s.r7, s.fs, s.fz, s.fx, s.fp, s.fc, s.sp, 8, s.ie, false⟩ := by kernel_rfl
  have g2 : Emvi0.grd (a011 s w) (g8 0 1 w) = inb (w8 w) := by kernel_rfl
  have g3 : Elxi0.grd (a012 s w) (g8 0 1 w) = (inb (w8 w) && inb (w8 (w.fdiv 256))) := by kernel_rfl
  have g4 : Einx0.grd (a013 s w) (g8 0 1 w) = (inb (w8 (w.fdiv 256)) && inb (w8 w)) := by kernel_rfl
  rw [g2, g3, g4, m1, m2, m3, m4, m5, e0]
  simp [t8, isMem_ok, neM, prM, eqF, Exchg, mOf, pc0, *]
theorem z8_01 (hs : s.Ok) (hw : B16 w) : MWp Try.prog (st8 (pc0 s) 0 1 w (g8 0 1 w) (l8 0 1 w)) (fun u _ => u = .bool true) :=
  MWp.out (cx8_ok (by simp [Emov01_ok, Emvi0_ok, Elxi0_ok, Einx0_ok, Exchg_ok])) 3000 _ (x8_01 s w) (y8_01 s w hs hw _ rfl) (fun _ => rfl)
end
section
variable (s : Sv) (w : Int)
def a021 : Mc := Emov02.mf (mOf (pc0 s)) (g8 0 2 w)
def a022 : Mc := Emvi0.mf (a021 s w) (g8 0 2 w)
def a023 : Mc := Elxi0.mf (a022 s w) (g8 0 2 w)
def a024 : Mc := Einx0.mf (a023 s w) (g8 0 2 w)
def a025 : Mc := Exchg.mf (a024 s w) (g8 0 2 w)
set_option maxRecDepth 100000 in
theorem x8_02 : (Ly.run (cx8 [Emov02, Emvi0, Elxi0, Einx0, Exchg]) 3000 [(4, true), (10, false), (3, true), (2, true), (8, false), (2, true), (3, true), (14, true), (4, true), (36, true), (5, true), (10, true), (4, true), (15, true), (15, true), (10, true)] (st8 (pc0 s) 0 2 w (g8 0 2 w) (l8 0 2 w))).out? = some (t8 (mOf (pc0 s)) (a021 s w) (a022 s w) (a023 s w) (a024 s w) (a025 s w) { mOf (pc0 s) with r0 := s.r2 } { mOf (pc0 s) with r0 := w8 w } (g8 0 2 w) w 0 (Emvi0.grd (a021 s w) (g8 0 2 w)) (Elxi0.grd (a022 s w) (g8 0 2 w)) (Einx0.grd (a023 s w) (g8 0 2 w)) (Exchg.grd (a024 s w) (g8 0 2 w)), .bool true) := by kernel_rfl
theorem y8_02 (hs : s.Ok) (hw : B16 w) (u : List (Bool × Bool)) (hu : u = t8 (mOf (pc0 s)) (a021 s w) (a022 s w) (a023 s w) (a024 s w) (a025 s w) { mOf (pc0 s) with r0 := s.r2 } { mOf (pc0 s) with r0 := w8 w } (g8 0 2 w) w 0 (Emvi0.grd (a021 s w) (g8 0 2 w)) (Elxi0.grd (a022 s w) (g8 0 2 w)) (Einx0.grd (a023 s w) (g8 0 2 w)) (Exchg.grd (a024 s w) (g8 0 2 w))) : trusted u := by
  obtain ⟨⟨q0, q1, q2, q3, q4, q5, q6, q7⟩, qs, qp⟩ := hs
  subst hu
  have e0 := hilo hw
  have e1 := hilo1 (w + 1)
  have n1 := b8hi (w + 1)
  have m1 : a021 s w = ⟨s.r2, s.r1, s.r2, s.r3, s.r4, s.r5, s.r7, s.fs, s.fz, s.fx, s.fp, s.fc, s.sp, 1, s.ie, false⟩ := by kernel_rfl
  have m2 : a022 s w = ⟨w8 w, s.r1, s.r2, s.r3, s.r4, s.r5, s.r7, s.fs, s.fz, s.fx, s.fp, s.fc, s.sp, 3, s.ie, false⟩ := by kernel_rfl
  have m3 : a023 s w = ⟨w8 (w.fdiv 256), w8 w, s.r2, s.r3, s.r4, s.r5, s.r7, s.fs, s.fz, s.fx, s.fp, s.fc, s.sp, 6, s.ie, false⟩ := by kernel_rfl
  have m4 : a024 s w = ⟨(256 * w8 (w.fdiv 256) + w8 w + 1) % 65536 / 256, (256 * w8 (w.fdiv 256) + w8 w + 1) % 256, s.r2, s.r3, s.r4, s.r5, s.r7, s.fs, s.fz, s.fx, s.fp, s.fc, s.sp, 7, s.ie, false⟩ := by kernel_rfl
  have m5 : a025 s w = ⟨(256 * w8 (w.fdiv 256) + w8 w + 1) % 65536 / 256, (256 * w8 (w.fdiv 256) + w8 w + 1) % 256, s.r4, s.r5, s.r2, s.r3, s.r7, s.fs, s.fz, s.fx, s.fp, s.fc, s.sp, 8, s.ie, false⟩ := by kernel_rfl
  have g2 : Emvi0.grd (a021 s w) (g8 0 2 w) = inb (w8 w) := by kernel_rfl
  have g3 : Elxi0.grd (a022 s w) (g8 0 2 w) = (inb (w8 w) && inb (w8 (w.fdiv 256))) := by kernel_rfl
  have g4 : Einx0.grd (a023 s w) (g8 0 2 w) = (inb (w8 (w.fdiv 256)) && inb (w8 w)) := by kernel_rfl
  rw [g2, g3, g4, m1, m2, m3, m4, m5, e0]
  simp [t8, isMem_ok, neM, prM, eqF, Exchg, mOf, pc0, *]
theorem z8_02 (hs : s.Ok) (hw : B16 w) : MWp Try.prog (st8 (pc0 s) 0 2 w (g8 0 2 w) (l8 0 2 w)) (fun u _ => u = .bool true) :=
  MWp.out (cx8_ok (by simp [Emov02_ok, Emvi0_ok, Elxi0_ok, Einx0_ok, Exchg_ok])) 3000 _ (x8_02 s w) (y8_02 s w hs hw _ rfl) (fun _ => rfl)
end
section
variable (s : Sv) (w : Int)
def a031 : Mc := Emov03.mf (mOf (pc0 s)) (g8 0 3 w)
def a032 : Mc := Emvi0.mf (a031 s w) (g8 0 3 w)
def a033 : Mc := Elxi0.mf (a032 s w) (g8 0 3 w)
def a034 : Mc := Einx0.mf (a033 s w) (g8 0 3 w)
def a035 : Mc := Exchg.mf (a034 s w) (g8 0 3 w)
set_option maxRecDepth 100000 in
theorem x8_03 : (Ly.run (cx8 [Emov03, Emvi0, Elxi0, Einx0, Exchg]) 3000 [(4, true), (10, false), (3, true), (2, true), (8, false), (2, true), (3, true), (14, true), (4, true), (36, true), (5, true), (10, true), (4, true), (15, true), (15, true), (10, true)] (st8 (pc0 s) 0 3 w (g8 0 3 w) (l8 0 3 w))).out? = some (t8 (mOf (pc0 s)) (a031 s w) (a032 s w) (a033 s w) (a034 s w) (a035 s w) { mOf (pc0 s) with r0 := s.r3 } { mOf (pc0 s) with r0 := w8 w } (g8 0 3 w) w 0 (Emvi0.grd (a031 s w) (g8 0 3 w)) (Elxi0.grd (a032 s w) (g8 0 3 w)) (Einx0.grd (a033 s w) (g8 0 3 w)) (Exchg.grd (a034 s w) (g8 0 3 w)), .bool true) := by kernel_rfl
theorem y8_03 (hs : s.Ok) (hw : B16 w) (u : List (Bool × Bool)) (hu : u = t8 (mOf (pc0 s)) (a031 s w) (a032 s w) (a033 s w) (a034 s w) (a035 s w) { mOf (pc0 s) with r0 := s.r3 } { mOf (pc0 s) with r0 := w8 w } (g8 0 3 w) w 0 (Emvi0.grd (a031 s w) (g8 0 3 w)) (Elxi0.grd (a032 s w) (g8 0 3 w)) (Einx0.grd (a033 s w) (g8 0 3 w)) (Exchg.grd (a034 s w) (g8 0 3 w))) : trusted u := by
  obtain ⟨⟨q0, q1, q2, q3, q4, q5, q6, q7⟩, qs, qp⟩ := hs
  subst hu
  have e0 := hilo hw
  have e1 := hilo1 (w + 1)
  have n1 := b8hi (w + 1)
  have m1 : a031 s w = ⟨s.r3, s.r1, s.r2, s.r3, s.r4, s.r5, s.r7, s.fs, s.fz, s.fx, s.fp, s.fc, s.sp, 1, s.ie, false⟩ := by kernel_rfl
  have m2 : a032 s w = ⟨w8 w, s.r1, s.r2, s.r3, s.r4, s.r5, s.r7, s.fs, s.fz, s.fx, s.fp, s.fc, s.sp, 3, s.ie, false⟩ := by kernel_rfl
  have m3 : a033 s w = ⟨w8 (w.fdiv 256), w8 w, s.r2, s.r3, s.r4, s.r5, s.r7, s.fs, s.fz, s.fx, s.fp, s.fc, s.sp, 6, s.ie, false⟩ := by kernel_rfl
  have m4 : a034 s w = ⟨(256 * w8 (w.fdiv 256) + w8 w + 1) % 65536 / 256, (256 * w8 (w.fdiv 256) + w8 w + 1) % 256, s.r2, s.r3, s.r4, s.r5, s.r7, s.fs, s.fz, s.fx, s.fp, s.fc, s.sp, 7, s.ie, false⟩ := by kernel_rfl
  have m5 : a035 s w = ⟨(256 * w8 (w.fdiv 256) + w8 w + 1) % 65536 / 256, (256 * w8 (w.fdiv 256) + w8 w + 1) % 256, s.r4, s.r5, s.r2, s.r3, s.r7, s.fs, s.fz, s.fx, s.fp, s.fc, s.sp, 8, s.ie, false⟩ := by kernel_rfl
  have g2 : Emvi0.grd (a031 s w) (g8 0 3 w) = inb (w8 w) := by kernel_rfl
  have g3 : Elxi0.grd (a032 s w) (g8 0 3 w) = (inb (w8 w) && inb (w8 (w.fdiv 256))) := by kernel_rfl
  have g4 : Einx0.grd (a033 s w) (g8 0 3 w) = (inb (w8 (w.fdiv 256)) && inb (w8 w)) := by kernel_rfl
  rw [g2, g3, g4, m1, m2, m3, m4, m5, e0]
  simp [t8, isMem_ok, neM, prM, eqF, Exchg, mOf, pc0, *]
theorem z8_03 (hs : s.Ok) (hw : B16 w) : MWp Try.prog (st8 (pc0 s) 0 3 w (g8 0 3 w) (l8 0 3 w)) (fun u _ => u = .bool true) :=
  MWp.out (cx8_ok (by simp [Emov03_ok, Emvi0_ok, Elxi0_ok, Einx0_ok, Exchg_ok])) 3000 _ (x8_03 s w) (y8_03 s w hs hw _ rfl) (fun _ => rfl)
end
section
variable (s : Sv) (w : Int)
def a041 : Mc := Emov04.mf (mOf (pc0 s)) (g8 0 4 w)
def a042 : Mc := Emvi0.mf (a041 s w) (g8 0 4 w)
def a043 : Mc := Elxi0.mf (a042 s w) (g8 0 4 w)
def a044 : Mc := Einx0.mf (a043 s w) (g8 0 4 w)
def a045 : Mc := Exchg.mf (a044 s w) (g8 0 4 w)
set_option maxRecDepth 100000 in
theorem x8_04 : (Ly.run (cx8 [Emov04, Emvi0, Elxi0, Einx0, Exchg]) 3000 [(4, true), (10, false), (3, true), (2, true), (8, false), (2, true), (3, true), (14, true), (4, true), (36, true), (5, true), (10, true), (4, true), (15, true), (15, true), (10, true)] (st8 (pc0 s) 0 4 w (g8 0 4 w) (l8 0 4 w))).out? = some (t8 (mOf (pc0 s)) (a041 s w) (a042 s w) (a043 s w) (a044 s w) (a045 s w) { mOf (pc0 s) with r0 := s.r4 } { mOf (pc0 s) with r0 := w8 w } (g8 0 4 w) w 0 (Emvi0.grd (a041 s w) (g8 0 4 w)) (Elxi0.grd (a042 s w) (g8 0 4 w)) (Einx0.grd (a043 s w) (g8 0 4 w)) (Exchg.grd (a044 s w) (g8 0 4 w)), .bool true) := by kernel_rfl
theorem y8_04 (hs : s.Ok) (hw : B16 w) (u : List (Bool × Bool)) (hu : u = t8 (mOf (pc0 s)) (a041 s w) (a042 s w) (a043 s w) (a044 s w) (a045 s w) { mOf (pc0 s) with r0 := s.r4 } { mOf (pc0 s) with r0 := w8 w } (g8 0 4 w) w 0 (Emvi0.grd (a041 s w) (g8 0 4 w)) (Elxi0.grd (a042 s w) (g8 0 4 w)) (Einx0.grd (a043 s w) (g8 0 4 w)) (Exchg.grd (a044 s w) (g8 0 4 w))) : trusted u := by
  obtain ⟨⟨q0, q1, q2, q3, q4, q5, q6, q7⟩, qs, qp⟩ := hs
  subst hu
  have e0 := hilo hw
  have e1 := hilo1 (w + 1)
  have n1 := b8hi (w + 1)
  have m1 : a041 s w = ⟨s.r4, s.r1, s.r2, s.r3, s.r4, s.r5, s.r7, s.fs, s.fz, s.fx, s.fp, s.fc, s.sp, 1, s.ie, false⟩ := by kernel_rfl
  have m2 : a042 s w = ⟨w8 w, s.r1, s.r2, s.r3, s.r4, s.r5, s.r7, s.fs, s.fz, s.fx, s.fp, s.fc, s.sp, 3, s.ie, false⟩ := by kernel_rfl
  have m3 : a043 s w = ⟨w8 (w.fdiv 256), w8 w, s.r2, s.r3, s.r4, s.r5, s.r7, s.fs, s.fz, s.fx, s.fp, s.fc, s.sp, 6, s.ie, false⟩ := by kernel_rfl
  have m4 : a044 s w = ⟨(256 * w8 (w.fdiv 256) + w8 w + 1) % 65536 / 256, (256 * w8 (w.fdiv 256) + w8 w + 1) % 256, s.r2, s.r3, s.r4, s.r5, s.r7, s.fs, s.fz, s.fx, s.fp, s.fc, s.sp, 7, s.ie, false⟩ := by kernel_rfl
  have m5 : a045 s w = ⟨(256 * w8 (w.fdiv 256) + w8 w + 1) % 65536 / 256, (256 * w8 (w.fdiv 256) + w8 w + 1) % 256, s.r4, s.r5, s.r2, s.r3, s.r7, s.fs, s.fz, s.fx, s.fp, s.fc, s.sp, 8, s.ie, false⟩ := by kernel_rfl
  have g2 : Emvi0.grd (a041 s w) (g8 0 4 w) = inb (w8 w) := by kernel_rfl
  have g3 : Elxi0.grd (a042 s w) (g8 0 4 w) = (inb (w8 w) && inb (w8 (w.fdiv 256))) := by kernel_rfl
  have g4 : Einx0.grd (a043 s w) (g8 0 4 w) = (inb (w8 (w.fdiv 256)) && inb (w8 w)) := by kernel_rfl
  rw [g2, g3, g4, m1, m2, m3, m4, m5, e0]
  simp [t8, isMem_ok, neM, prM, eqF, Exchg, mOf, pc0, *]
theorem z8_04 (hs : s.Ok) (hw : B16 w) : MWp Try.prog (st8 (pc0 s) 0 4 w (g8 0 4 w) (l8 0 4 w)) (fun u _ => u = .bool true) :=
  MWp.out (cx8_ok (by simp [Emov04_ok, Emvi0_ok, Elxi0_ok, Einx0_ok, Exchg_ok])) 3000 _ (x8_04 s w) (y8_04 s w hs hw _ rfl) (fun _ => rfl)
end
section
variable (s : Sv) (w : Int)
def a051 : Mc := Emov05.mf (mOf (pc0 s)) (g8 0 5 w)
def a052 : Mc := Emvi0.mf (a051 s w) (g8 0 5 w)
def a053 : Mc := Elxi0.mf (a052 s w) (g8 0 5 w)
def a054 : Mc := Einx0.mf (a053 s w) (g8 0 5 w)
def a055 : Mc := Exchg.mf (a054 s w) (g8 0 5 w)
set_option maxRecDepth 100000 in
theorem x8_05 : (Ly.run (cx8 [Emov05, Emvi0, Elxi0, Einx0, Exchg]) 3000 [(4, true), (10, false), (3, true), (2, true), (8, false), (2, true), (3, true), (14, true), (4, true), (36, true), (5, true), (10, true), (4, true), (15, true), (15, true), (10, true)] (st8 (pc0 s) 0 5 w (g8 0 5 w) (l8 0 5 w))).out? = some (t8 (mOf (pc0 s)) (a051 s w) (a052 s w) (a053 s w) (a054 s w) (a055 s w) { mOf (pc0 s) with r0 := s.r5 } { mOf (pc0 s) with r0 := w8 w } (g8 0 5 w) w 0 (Emvi0.grd (a051 s w) (g8 0 5 w)) (Elxi0.grd (a052 s w) (g8 0 5 w)) (Einx0.grd (a053 s w) (g8 0 5 w)) (Exchg.grd (a054 s w) (g8 0 5 w)), .bool true) := by kernel_rfl
theorem y8_05 (hs : s.Ok) (hw : B16 w) (u : List (Bool × Bool)) (hu : u = t8 (mOf (pc0 s)) (a051 s w) (a052 s w) (a053 s w) (a054 s w) (a055 s w) { mOf (pc0 s) with r0 := s.r5 } { mOf (pc0 s) with r0 := w8 w } (g8 0 5 w) w 0 (Emvi0.grd (a051 s w) (g8 0 5 w)) (Elxi0.grd (a052 s w) (g8 0 5 w)) (Einx0.grd (a053 s w) (g8 0 5 w)) (Exchg.grd (a054 s w) (g8 0 5 w))) : trusted u := by
  obtain ⟨⟨q0, q1, q2, q3, q4, q5, q6, q7⟩, qs, qp⟩ := hs
  subst hu
  have e0 := hilo hw
  have e1 := hilo1 (w + 1)
  have n1 := b8hi (w + 1)
  have m1 : a051 s w = ⟨s.r5, s.r1, s.r2, s.r3, s.r4, s.r5, s.r7, s.fs, s.fz, s.fx, s.fp, s.fc, s.sp, 1, s.ie, false⟩ := by kernel_rfl
  have m2 : a052 s w = ⟨w8 w, s.r1, s.r2, s.r3, s.r4, s.r5, s.r7, s.fs, s.fz, s.fx, s.fp, s.fc, s.sp, 3, s.ie, false⟩ := by kernel_rfl
  have m3 : a053 s w = ⟨w8 (w.fdiv 256), w8 w, s.r2, s.r3, s.r4, s.r5, s.r7, s.fs, s.fz, s.fx, s.fp, s.fc, s.sp, 6, s.ie, false⟩ := by kernel_rfl
  have m4 : a054 s w = ⟨(256 * w8 (w.fdiv 256) + w8 w + 1) % 65536 / 256, (256 * w8 (w.fdiv 256) + w8 w + 1) % 256, s.r2, s.r3, s.r4, s.r5, s.r7, s.fs, s.fz, s.fx, s.fp, s.fc, s.sp, 7, s.ie, false⟩ := by kernel_rfl
  have m5 : a055 s w = ⟨(256 * w8 (w.fdiv 256) + w8 w + 1) % 65536 / 256, (256 * w8 (w.fdiv 256) + w8 w + 1) % 256, s.r4, s.r5, s.r2, s.r3, s.r7, s.fs, s.fz, s.fx, s.fp, s.fc, s.sp, 8, s.ie, false⟩ := by kernel_rfl
  have g2 : Emvi0.grd (a051 s w) (g8 0 5 w) = inb (w8 w) := by kernel_rfl
  have g3 : Elxi0.grd (a052 s w) (g8 0 5 w) = (inb (w8 w) && inb (w8 (w.fdiv 256))) := by kernel_rfl
  have g4 : Einx0.grd (a053 s w) (g8 0 5 w) = (inb (w8 (w.fdiv 256)) && inb (w8 w)) := by kernel_rfl
  rw [g2, g3, g4, m1, m2, m3, m4, m5, e0]
  simp [t8, isMem_ok, neM, prM, eqF, Exchg, mOf, pc0, *]
theorem z8_05 (hs : s.Ok) (hw : B16 w) : MWp Try.prog (st8 (pc0 s) 0 5 w (g8 0 5 w) (l8 0 5 w)) (fun u _ => u = .bool true) :=
  MWp.out (cx8_ok (by simp [Emov05_ok, Emvi0_ok, Elxi0_ok, Einx0_ok, Exchg_ok])) 3000 _ (x8_05 s w) (y8_05 s w hs hw _ rfl) (fun _ => rfl)
end
section
variable (s : Sv) (w : Int)
def a071 : Mc := Emov07.mf (mOf (pc0 s)) (g8 0 7 w)
def a072 : Mc := Emvi0.mf (a071 s w) (g8 0 7 w)
def a073 : Mc := Elxi0.mf (a072 s w) (g8 0 7 w)
def a074 : Mc := Einx0.mf (a073 s w) (g8 0 7 w)
def a075 : Mc := Exchg.mf (a074 s w) (g8 0 7 w)
set_option maxRecDepth 100000 in
theorem x8_07 : (Ly.run (cx8 [Emov07, Emvi0, Elxi0, Einx0, Exchg]) 3000 [(4, true), (10, false), (3, true), (2, true), (8, false), (2, true), (3, true), (14, true), (4, true), (36, true), (5, true), (10, true), (4, true), (15, true), (15, true), (10, true)] (st8 (pc0 s) 0 7 w (g8 0 7 w) (l8 0 7 w))).out? = some (t8 (mOf (pc0 s)) (a071 s w) (a072 s w) (a073 s w) (a074 s w) (a075 s w) { mOf (pc0 s) with r0 := s.r7 } { mOf (pc0 s) with r0 := w8 w } (g8 0 7 w) w 0 (Emvi0.grd (a071 s w) (g8 0 7 w)) (Elxi0.grd (a072 s w) (g8 0 7 w)) (Einx0.grd (a073 s w) (g8 0 7 w)) (Exchg.grd (a074 s w) (g8 0 7 w)), .bool true) := by kernel_rfl
theorem y8_07 (hs : s.Ok) (hw : B16 w) (u : List (Bool × Bool)) (hu : u = t8 (mOf (pc0 s)) (a071 s w) (a072 s w) (a073 s w) (a074 s w) (a075 s w) { mOf (pc0 s) with r0 := s.r7 } { mOf (pc0 s) with r0 := w8 w } (g8 0 7 w) w 0 (Emvi0.grd (a071 s w) (g8 0 7 w)) (Elxi0.grd (a072 s w) (g8 0 7 w)) (Einx0.grd (a073 s w) (g8 0 7 w)) (Exchg.grd (a074 s w) (g8 0 7 w))) : trusted u := by
  obtain ⟨⟨q0, q1, q2, q3, q4, q5, q6, q7⟩, qs, qp⟩ := hs
  subst hu
  have e0 := hilo hw
  have e1 := hilo1 (w + 1)
  have n1 := b8hi (w + 1)
  have m1 : a071 s w = ⟨s.r7, s.r1, s.r2, s.r3, s.r4, s.r5, s.r7, s.fs, s.fz, s.fx, s.fp, s.fc, s.sp, 1, s.ie, false⟩ := by kernel_rfl
  have m2 : a072 s w = ⟨w8 w, s.r1, s.r2, s.r3, s.r4, s.r5, s.r7, s.fs, s.fz, s.fx, s.fp, s.fc, s.sp, 3, s.ie, false⟩ := by kernel_rfl
  have m3 : a073 s w = ⟨w8 (w.fdiv 256), w8 w, s.r2, s.r3, s.r4, s.r5, s.r7, s.fs, s.fz, s.fx, s.fp, s.fc, s.sp, 6, s.ie, false⟩ := by kernel_rfl
  have m4 : a074 s w = ⟨(256 * w8 (w.fdiv 256) + w8 w + 1) % 65536 / 256, (256 * w8 (w.fdiv 256) + w8 w + 1) % 256, s.r2, s.r3, s.r4, s.r5, s.r7, s.fs, s.fz, s.fx, s.fp, s.fc, s.sp, 7, s.ie, false⟩ := by kernel_rfl
  have m5 : a075 s w = ⟨(256 * w8 (w.fdiv 256) + w8 w + 1) % 65536 / 256, (256 * w8 (w.fdiv 256) + w8 w + 1) % 256, s.r4, s.r5, s.r2, s.r3, s.r7, s.fs, s.fz, s.fx, s.fp, s.fc, s.sp, 8, s.ie, false⟩ := by kernel_rfl
  have g2 : Emvi0.grd (a071 s w) (g8 0 7 w) = inb (w8 w) := by kernel_rfl
  have g3 : Elxi0.grd (a072 s w) (g8 0 7 w) = (inb (w8 w) && inb (w8 (w.fdiv 256))) := by kernel_rfl
  have g4 : Einx0.grd (a073 s w) (g8 0 7 w) = (inb (w8 (w.fdiv 256)) && inb (w8 w)) := by kernel_rfl
  rw [g2, g3, g4, m1, m2, m3, m4, m5, e0]
  simp [t8, isMem_ok, neM, prM, eqF, Exchg, mOf, pc0, *]
theorem z8_07 (hs : s.Ok) (hw : B16 w) : MWp Try.prog (st8 (pc0 s) 0 7 w (g8 0 7 w) (l8 0 7 w)) (fun u _ => u = .bool true) :=
  MWp.out (cx8_ok (by simp [Emov07_ok, Emvi0_ok, Elxi0_ok, Einx0_ok, Exchg_ok])) 3000 _ (x8_07 s w) (y8_07 s w hs hw _ rfl) (fun _ => rfl)
end
theorem z8d0 (r : Int) (h3 : 0 ≤ r) (h4 : r ≤ 7) (hr6 : r ≠ 6) (s : Sv) (w : Int) (hs : s.Ok) (hw : B16 w) : MWp Try.prog (st8 (pc0 s) 0 r w (g8 0 r w) (l8 0 r w)) (fun u _ => u = .bool true) := by
  have : r = 0 ∨ r = 1 ∨ r = 2 ∨ r = 3 ∨ r = 4 ∨ r = 5 ∨ r = 7 := by omega
  rcases this with rfl | rfl | rfl | rfl | rfl | rfl | rfl
  · exact z8_00 s w hs hw
  · exact z8_01 s w hs hw
  · exact z8_02 s w hs hw
  · exact z8_03 s w hs hw
  · exact z8_04 s w hs hw
  · exact z8_05 s w hs hw
  · exact z8_07 s w hs hw
end Go.Proofs.Ytpggoincnebfnaa
end
