/- Part D: memory: new blocks, loads, stores, addresses. -/
import Derived.Test.YtabhfbmaomkmhaaLxC
namespace Go.Lx
set_option linter.unusedSimpArgs false
set_option linter.unusedVariables false
section
variable {E : Env} {P : Program} {ρ : Ren} {w : World} {H : Heap}

noncomputable def LO.cs : LO → List Value
  | .cells c _ => c
  | .row c _ _ => c
noncomputable def LO.ty : LO → TypeId
  | .cells _ t => t
  | .row _ t _ => t
noncomputable def LO.with : LO → List Value → LO
  | .cells _ t, c => .cells c t
  | .row _ t z, c => .row c t z

theorem Rep.block {i : Nat} {o : LO} (hr : Rep ρ H w) (h : H.get i = some o) :
    ∃ b c' d', ρ i = some b ∧ w.heap[b]? = some (.cells ⟨c' ++ d'⟩ o.ty (0, 0)) ∧ VRL ρ o.cs c' ∧ (∀ c t, o = .cells c t → d' = []) := by
  obtain ⟨b, o', hb, ho, hor⟩ := hr.obj i o h
  cases o with
  | cells c t => obtain ⟨c', h1, rfl⟩ := hor; exact ⟨b, c', [], hb, by rw [List.append_nil]; exact ho, h1, fun _ _ _ => rfl⟩
  | row c t z => obtain ⟨c', d', h1, rfl, _⟩ := hor; exact ⟨b, c', d', hb, ho, h1, fun _ _ e => by cases e⟩

/-! new blocks -/
noncomputable def Ren.ext (ρ : Ren) (i b k : Nat) : Ren := ⟨fun j => if j = i then some b else ρ j, fun j => if j = i then k else ρ.cap j⟩

theorem Rep.none_next (hr : Rep ρ H w) {i : Nat} (hi : H.next ≤ i) : ρ i = none := by
  cases h : ρ i with
  | none => rfl
  | some b => have := (hr.dom i b h).1; omega

theorem Rep.ext_le (hr : Rep ρ H w) (b k : Nat) : Ren.le ρ (ρ.ext H.next b k) := fun i x h => by
  have := (hr.dom i x h).1
  simp only [Ren.ext]; rw [if_neg (by omega), if_neg (by omega)]; exact ⟨h, rfl⟩

theorem Rep.new (hr : Rep ρ H w) (hn : H.next + 1 < big) {o : LO} {o' : Obj} (k : Nat) (ho : OR (ρ.ext H.next w.heap.size k) H.next o o') :
    Rep (ρ.ext H.next w.heap.size k) (H.new o) (w.alloc o') ∧ Fresh ρ (ρ.ext H.next w.heap.size k) w ∧ Keep ρ w (w.alloc o') := by
  have hget : ∀ i, (H.new o).get i = if i = H.next then some o else H.get i := fun i => Tr.get_set _ _ _ hr.small i
  have hlt : ∀ i, (H.get i).isSome = true → i < H.next := by
    intro i hi
    obtain ⟨x, hx⟩ := Option.isSome_iff_exists.1 hi
    obtain ⟨b, _, hb, _⟩ := hr.obj i x hx
    exact (hr.dom i b hb).1
  have hz : (w.alloc o').heap = w.heap.push o' := rfl
  have hz1 : (w.alloc o').heap.size = w.heap.size + 1 := by rw [hz]; simp
  have hn1 : (H.new o).next = H.next + 1 := rfl
  refine ⟨⟨hn, ?_, ?_, ?_⟩, ?_, ?_⟩
  · intro i b h
    simp only [Ren.ext] at h
    rw [hz1, hn1]
    split at h
    · rename_i e; subst e; simp at h; subst h; exact ⟨by omega, by omega⟩
    · have := hr.dom i b h; exact ⟨by omega, by omega⟩
  · intro i j b hi hj h1 h2
    rw [hget] at hi hj
    simp only [Ren.ext] at h1 h2
    by_cases e1 : i = H.next <;> by_cases e2 : j = H.next
    · omega
    · rw [if_pos e1] at h1; rw [if_neg e2] at h2; simp at h1; have := (hr.dom j b h2).2; omega
    · rw [if_neg e1] at h1; rw [if_pos e2] at h2; simp at h2; have := (hr.dom i b h1).2; omega
    · rw [if_neg e1] at h1 hi; rw [if_neg e2] at h2 hj; exact hr.inj i j b hi hj h1 h2
  · intro i x hx
    rw [hget] at hx
    by_cases e : i = H.next
    · rw [if_pos e] at hx; simp at hx; subst hx; subst e
      exact ⟨w.heap.size, o', by simp [Ren.ext], by rw [hz]; simp, ho⟩
    · rw [if_neg e] at hx
      obtain ⟨b, y, hb, hy, hor⟩ := hr.obj i x hx
      have := (hr.dom i b hb).2
      exact ⟨b, y, by simp only [Ren.ext]; rw [if_neg e]; exact hb, by rw [hz, Array.getElem?_push_lt this]; simpa [Array.getElem?_eq_getElem this] using hy, OR.mono (hr.ext_le _ _) (by simp only [Ren.ext]; rw [if_neg e]) _ _ hor⟩
  · intro i b h
    simp only [Ren.ext] at h
    split at h
    · simp at h; subst h; exact .inr (.inl (Nat.le_refl _))
    · exact .inl h
  · refine ⟨rfl, rfl, rfl, by omega, fun k hk _ => ?_⟩
    rw [hz, Array.getElem?_push_lt hk]; simp [hk]

/-! a block that is written -/
noncomputable def World.setBlk (w : World) (b : Nat) (o : Obj) : World := { w with heap := w.heap.setIfInBounds b o }

theorem Rep.put (hr : Rep ρ H w) {i b : Nat} {o0 o : LO} {o' : Obj} (h0 : H.get i = some o0) (hb : ρ i = some b) (ho : OR ρ i o o') :
    Rep ρ (H.put i o) (World.setBlk w b o') ∧ Keep ρ w (World.setBlk w b o') := by
  have hi := hr.dom i b hb
  have hget : ∀ j, (H.put i o).get j = if j = i then some o else H.get j := fun j => Tr.get_set _ _ _ (Nat.lt_trans hi.1 hr.small) j
  refine ⟨⟨hr.small, ?_, ?_, ?_⟩, ?_⟩
  · intro j c h; have := hr.dom j c h; simpa [World.setBlk, Heap.put] using this
  · intro j k c hj hk h1 h2
    refine hr.inj j k c ?_ ?_ h1 h2
    · rw [hget] at hj; by_cases e : j = i
      · rw [e, h0]; rfl
      · rwa [if_neg e] at hj
    · rw [hget] at hk; by_cases e : k = i
      · rw [e, h0]; rfl
      · rwa [if_neg e] at hk
  · intro j x hx
    rw [hget] at hx
    by_cases e : j = i
    · rw [if_pos e] at hx; simp at hx; subst hx; subst e
      exact ⟨b, o', hb, by simp [World.setBlk, hi.2], ho⟩
    · rw [if_neg e] at hx
      obtain ⟨c, y, hc, hy, hor⟩ := hr.obj j x hx
      refine ⟨c, y, hc, ?_, hor⟩
      have hne : b ≠ c := by
        intro hbc; subst hbc
        exact e (hr.inj j i b (by rw [hx]; rfl) (by rw [h0]; rfl) hc hb)
      simp only [World.setBlk]
      rw [Array.getElem?_setIfInBounds_ne hne]; exact hy
  · refine ⟨rfl, rfl, rfl, by simp [World.setBlk], fun k hk hki => ?_⟩
    simp only [World.setBlk]
    rw [Array.getElem?_setIfInBounds_ne (fun (e : b = k) => hki i (by rw [← e]; exact hb))]

/-! cells that are written -/
noncomputable def wrL (c : List Value) (o : Nat) : List Value → List Value
  | [] => c
  | v :: r => wrL (c.set o v) (o + 1) r

theorem VRL.wr : ∀ {c c' : List Value} (o : Nat) {vs vs' : List Value}, VRL ρ c c' → VRL ρ vs vs' → VRL ρ (wrL c o vs) (wrL c' o vs')
  | c, c', o, [], vs', h, e => by simp only [VRL] at e; subst e; exact h
  | c, c', o, v :: r, vs', h, e => by
    simp only [VRL] at e
    obtain ⟨v', r', h1, h2, rfl⟩ := e
    exact VRL.wr (o + 1) (VRL.set h o v v' h1) h2

theorem wrL_append : ∀ (c d : List Value) (o : Nat) (vs : List Value), o + vs.length ≤ c.length → wrL (c ++ d) o vs = wrL c o vs ++ d
  | c, d, o, [], _ => rfl
  | c, d, o, v :: r, h => by
    simp only [wrL]
    simp at h
    rw [List.set_append_left _ _ (by omega), wrL_append _ _ _ _ (by simp; omega)]

theorem wrL_length : ∀ (c : List Value) (o : Nat) (vs : List Value), (wrL c o vs).length = c.length
  | c, o, [] => rfl
  | c, o, v :: r => by rw [wrL, wrL_length]; simp

theorem setCell_blk {b o : Nat} {c : Array Value} {t : TypeId} {fr : Nat × Nat} (h : w.heap[b]? = some (.cells c t fr)) (v : Value) :
    w.setCell ⟨b, o, none⟩ v = World.setBlk w b (.cells (c.setIfInBounds o v) t fr) := by
  unfold World.setCell World.setBlk
  congr 1
  apply Array.ext_getElem?
  intro k
  rw [Array.getElem?_modify]
  by_cases hk : b = k
  · subst hk
    have hlt : b < w.heap.size := by
      rcases Nat.lt_or_ge b w.heap.size with h' | h'
      · exact h'
      · rw [Array.getElem?_eq_none h'] at h; cases h
    rw [if_pos rfl, h]; simp [hlt]
  · rw [if_neg hk, Array.getElem?_setIfInBounds_ne hk]

theorem setCells_blk {b : Nat} {t : TypeId} {fr : Nat × Nat} : ∀ (vs : List Value) (o : Nat) (w : World) (c : List Value), w.heap[b]? = some (.cells ⟨c⟩ t fr) →
    w.setCells b o vs = World.setBlk w b (.cells ⟨wrL c o vs⟩ t fr)
  | [], o, w, c, h => by
    simp only [World.setCells, wrL, World.setBlk]
    have : w.heap.setIfInBounds b (.cells ⟨c⟩ t fr) = w.heap := by
      apply Array.ext_getElem?
      intro k
      by_cases hk : b = k
      · subst hk
        have hlt : b < w.heap.size := by
          rcases Nat.lt_or_ge b w.heap.size with h' | h'
          · exact h'
          · rw [Array.getElem?_eq_none h'] at h; cases h
        simp [hlt]; simpa [Array.getElem?_eq_getElem hlt] using h.symm
      · rw [Array.getElem?_setIfInBounds_ne hk]
    rw [this]
  | v :: r, o, w, c, h => by
    have hlt : b < w.heap.size := by
      rcases Nat.lt_or_ge b w.heap.size with h' | h'
      · exact h'
      · rw [Array.getElem?_eq_none h'] at h; cases h
    rw [World.setCells, setCell_blk h v]
    rw [setCells_blk (t := t) (fr := fr) r (o + 1) _ (c.set o v) (by simp [World.setBlk, hlt])]
    simp [World.setBlk, wrL]

/-- no part is one of several cells -/
noncomputable def one : Value → Bool
  | .agg _ | .tuple _ => false
  | _ => true
theorem one_VR {v v' : Value} (h : one v = true) (hv : VR ρ v v') : v'.oneCell' = true := by
  cases v with
  | bool b => simp only [VR] at hv; subst hv; rfl
  | int k n => simp only [VR] at hv; subst hv; rfl
  | float k n => exact hv.elim
  | complex k a b => exact hv.elim
  | string s => simp only [VR] at hv; subst hv; rfl
  | pointer a => cases a with
    | none => simp only [VR] at hv; subst hv; rfl
    | some a => simp only [VR] at hv; obtain ⟨_, q, _, rfl⟩ := hv; rfl
  | slice a n c => cases a with
    | none => simp only [VR] at hv; subst hv; rfl
    | some a =>
      simp only [VR] at hv
      cases hs : a.spot with
      | none => rw [hs] at hv; simp only at hv; obtain ⟨q, c', _, rfl, _⟩ := hv; rfl
      | some q => rw [hs] at hv; simp only at hv; obtain ⟨_, a', c', rfl⟩ := hv; rfl
  | map r => cases r with
    | none => simp only [VR] at hv; subst hv; rfl
    | some a => simp only [VR] at hv; obtain ⟨q, _, rfl⟩ := hv; rfl
  | chan r => exact hv.elim
  | func fn xs ys => obtain ⟨xs⟩ := xs; obtain ⟨ys⟩ := ys; simp only [VR] at hv; obtain ⟨_, _, _, _, rfl⟩ := hv; rfl
  | nilFunc => simp only [VR] at hv; subst hv; rfl
  | iface t x => simp only [VR] at hv; obtain ⟨_, _, rfl⟩ := hv; rfl
  | nilIface => simp only [VR] at hv; subst hv; rfl
  | agg xs => simp [one] at h
  | tuple xs => simp [one] at h

theorem all_one {vs vs' : List Value} (h : vs.all one = true) (hv : VRL ρ vs vs') : ∀ v ∈ vs', v.oneCell' = true := by
  induction vs generalizing vs' with
  | nil => simp only [VRL] at hv; subst hv; simp
  | cons v r ih =>
    simp only [VRL] at hv
    obtain ⟨v', r', h1, h2, rfl⟩ := hv
    simp only [List.all_cons, Bool.and_eq_true] at h
    intro x hx
    cases hx with
    | head => exact one_VR h.1 h1
    | tail _ hx => exact ih h.2 h2 x hx

noncomputable def cellsL : Value → List Value
  | .agg ⟨cs⟩ => cs
  | v => [v]

theorem cells_VR {v v' : Value} (hv : VR ρ v v') (h : (cellsL v).all one = true) : ∃ cs', VRL ρ (cellsL v) cs' ∧ v'.cells = ⟨cs'⟩ := by
  cases v with
  | agg xs => obtain ⟨xs⟩ := xs; simp only [VR] at hv; obtain ⟨xs', h1, rfl⟩ := hv; exact ⟨xs', h1, rfl⟩
  | _ =>
    refine ⟨[v'], by simp only [cellsL, VRL]; exact ⟨v', [], hv, rfl, rfl⟩, ?_⟩
    have h1 : v'.oneCell' = true := one_VR (by simpa [cellsL] using h) hv
    cases v' <;> first | rfl | (simp [Value.oneCell'] at h1)

/-! ### load -/
noncomputable def evLoad (E : Env) (H : Heap) (t : TypeId) (p : Value) : ER :=
  match p with
  | .pointer (some a) =>
    match H.get a.block, E.ty.get t with
    | some o, some i =>
      bif isAggD i.desc then
        (let l := (o.cs.drop a.off).take i.size
         bif Nat.beq l.length i.size then .val (.agg ⟨l⟩) else .no)
      else (match o.cs[a.off]? with | some v => .val v | none => .no)
    | _, _ => .no
  | _ => .no

theorem cell_of {b off : Nat} {c : List Value} {t : TypeId} {fr : Nat × Nat} (h : w.heap[b]? = some (.cells ⟨c⟩ t fr)) : w.cell? ⟨b, off, none⟩ = c[off]? := by
  simp [World.cell?, h]
theorem frozen_of {b off : Nat} {c : List Value} {t : TypeId} (h : w.heap[b]? = some (.cells ⟨c⟩ t (0, 0))) : w.frozen? ⟨b, off, none⟩ = false := by
  simp [World.frozen?, h]

theorem addr_add (b o n : Nat) : (⟨b, o, none⟩ : Addr).add n = ⟨b, o + n, none⟩ := by
  unfold Addr.add; split <;> simp_all

theorem VR_agg {xs xs' : List Value} (h : VRL ρ xs xs') : VR ρ (.agg ⟨xs⟩) (.agg ⟨xs'⟩) := by simp only [VR]; exact ⟨xs', h, rfl⟩

theorem run_isAgg {t : TypeId} {i : TI} (hE : E.Ok P) (ht : E.ty.get t = some i) : (isAgg t).run P w = .ok (isAggD i.desc) w := by
  obtain ⟨hu, _, _⟩ := hE.ty t i ht
  unfold isAgg
  cases hd : i.desc <;> rw [hd] at hu <;> simp [run_underlying hu, isAggD]

theorem run_sizeOf {t : TypeId} {i : TI} (hE : E.Ok P) (ht : E.ty.get t = some i) : (sizeOf t).run P w = .ok i.size w := by
  obtain ⟨_, ⟨j, hj, hs, _, _⟩, _⟩ := hE.ty t i ht
  simp [sizeOf, typeInfo, hj, hs]

theorem evLoad_good (hE : E.Ok P) (hr : Rep ρ H w) (t : TypeId) {p p' : Value} (hp : VR ρ p p') :
    Next.Good P ρ w (valued ((Instr.loadAt t p').run P w)) (evLoad E H t p) := by
  unfold evLoad
  split
  · rename_i a
    simp only [VR] at hp
    obtain ⟨hs, b, hb, rfl⟩ := hp
    split
    · rename_i o i ho ht
      obtain ⟨b', c', d', hb', hblk, hc, _⟩ := hr.block ho
      obtain rfl : b' = b := by rw [hb] at hb'; exact (Option.some.inj hb').symm
      cases hag : isAggD i.desc with
      | true =>
        simp only [cond_true]
        cases hl : Nat.beq ((o.cs.drop a.off).take i.size).length i.size with
        | false => simp [Next.Good]
        | true =>
          simp only [cond_true]
          have hl' := Nat.eq_of_beq_eq_true hl
          have hcl := VRL.length hc
          have hlen : a.off + i.size ≤ c'.length ∨ i.size = 0 := by simp at hl'; omega
          refine ⟨_, VR_agg (VRL.take i.size (VRL.drop a.off hc)), ?_⟩
          have hload : (loadCells ⟨b', a.off, none⟩ i.size).run P w = .ok ⟨(c'.drop a.off).take i.size⟩ w := by
            have hl2 : ((c'.drop a.off).take i.size).length = i.size := by
              simp only [List.length_take, List.length_drop] at hl' ⊢; omega
            have := run_loadCells_list (P := P) w ⟨b', a.off, none⟩ ((c'.drop a.off).take i.size) (fun j v hj => by
              rw [addr_add, cell_of hblk]
              have hjl : j < i.size := by
                have := (List.getElem?_eq_some_iff.1 hj).1; omega
              rw [List.getElem?_take_of_lt hjl, List.getElem?_drop] at hj
              rw [List.getElem?_append_left (by have := (List.getElem?_eq_some_iff.1 hj).1; omega)]
              exact hj)
            rw [hl2] at this
            exact this
          simp [valued, Instr.loadAt, Instr.sureAddr, loadVar, run_isAgg hE ht, hag, run_sizeOf hE ht, hload]
      | false =>
        simp only [cond_false]
        cases hv : o.cs[a.off]? with
        | none => simp [Next.Good]
        | some v =>
          obtain ⟨v', h1, h2⟩ := VRL.get hc a.off v hv
          refine ⟨v', h2, ?_⟩
          have hcell : w.cell? ⟨b', a.off, none⟩ = some v' := by
            rw [cell_of hblk, List.getElem?_append_left (List.getElem?_eq_some_iff.1 h1).1]; exact h1
          simp [valued, Instr.loadAt, Instr.sureAddr, loadVar, run_isAgg hE ht, hag, run_load, hcell]
    · simp [Next.Good]
  · simp [Next.Good]

/-! ### store -/
noncomputable def evStore (E : Env) (H : Heap) (t : TypeId) (p v : Value) : ER :=
  match p with
  | .pointer (some a) =>
    match H.get a.block, E.ty.get t with
    | some o, some i =>
      let l := cellsL v
      bif Nat.beq l.length i.size && l.all one && Nat.ble (a.off + l.length) o.cs.length then .skip (H.put a.block (o.with (wrL o.cs a.off l))) else .no
    | _, _ => .no
  | _ => .no

theorem evStore_good (hE : E.Ok P) (hr : Rep ρ H w) (t : TypeId) {p p' v v' : Value} (hp : VR ρ p p') (hv : VR ρ v v') :
    Next.Good P ρ w (((Instr.storeAt t p' v').run P w).andThen fun _ w => .ok .skip w) (evStore E H t p v) := by
  unfold evStore
  split
  · rename_i a
    simp only [VR] at hp
    obtain ⟨hs, b, hb, rfl⟩ := hp
    split
    · rename_i o i ho ht
      obtain ⟨b', c', d', hb', hblk, hc, hex⟩ := hr.block ho
      obtain rfl : b' = b := by rw [hb] at hb'; exact (Option.some.inj hb').symm
      simp only
      cases hcond : (Nat.beq (cellsL v).length i.size && (cellsL v).all one && Nat.ble (a.off + (cellsL v).length) o.cs.length) with
      | false => simp [Next.Good]
      | true =>
        simp only [cond_true]
        simp only [Bool.and_eq_true] at hcond
        obtain ⟨⟨h1, h2⟩, h3⟩ := hcond
        have h1' := Nat.eq_of_beq_eq_true h1
        have h3' := Nat.le_of_ble_eq_true h3
        obtain ⟨cs', hcs, hcells⟩ := cells_VR hv h2
        have hl1 := VRL.length hcs
        have hl2 := VRL.length hc
        have hst := run_storeCells_cells (P := P) b' a.off cs' 0 w (fun j hj => by
            rw [cell_of hblk]; rw [List.getElem?_eq_getElem (by simp; omega)]; rfl)
          (fun j hj => frozen_of hblk) (all_one h2 hcs)
        rw [setCells_blk cs' (a.off + 0) w (c' ++ d') hblk, Nat.add_zero, wrL_append _ _ _ _ (by omega)] at hst
        have hor : OR ρ a.block (o.with (wrL o.cs a.off (cellsL v))) (.cells ⟨wrL c' a.off cs' ++ d'⟩ o.ty (0, 0)) := by
          have hw := VRL.wr a.off hc hcs
          cases o with
          | cells c t => obtain rfl := hex c t rfl; exact ⟨_, hw, by simp [LO.ty]⟩
          | row c t z =>
            obtain ⟨bb, oo, hbb, hoo, c2, d2, g1, g2, g3⟩ := hr.obj _ _ ho
            obtain rfl : bb = b' := by rw [hb] at hbb; exact (Option.some.inj hbb).symm
            rw [hblk] at hoo; obtain rfl := Option.some.inj hoo
            refine ⟨_, _, hw, rfl, ?_⟩
            have hlen : (wrL c' a.off cs').length = c'.length := by rw [VRL.length hw, wrL_length, hl2]
            have g4 : (c' ++ d').length = (c2 ++ d2).length := by simp only [Obj.cells.injEq] at g2; exact congrArg (fun x : Array Value => x.toList.length) g2.1
            rw [hlen]; simp at g4; omega
        obtain ⟨hrep, hkeep⟩ := hr.put (o := o.with (wrL o.cs a.off (cellsL v))) ho hb hor
        refine ⟨_, ?_, hrep, hkeep⟩
        have hsz : v'.cells.size = i.size := by rw [hcells]; simp; omega
        have hlist : v'.cells.toList = cs' := by rw [hcells]
        simp [Instr.storeAt, Instr.sureAddr, storeVar, run_sizeOf hE ht, hsz, hlist, hst]
    · simp [Next.Good]
  · simp [Next.Good]
end
end Go.Lx
