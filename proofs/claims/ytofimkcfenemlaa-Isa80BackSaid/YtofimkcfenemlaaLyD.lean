/- Part D: memory: new blocks, loads, stores, addresses. -/
import Derived.Test.YtofimkcfenemlaaLyC
namespace Go.Ly
set_option linter.unusedSimpArgs false
set_option linter.unusedVariables false
section
variable {E : Env} {P : Program} {ρ : Ren} {w : World} {H : Heap}

noncomputable def LO.cs : LO → List Value
  | .cells c _ => c
  | .row c _ _ => c
  | _ => []
noncomputable def LO.ty : LO → TypeId
  | .cells _ t => t
  | .row _ t _ => t
  | .fn _ _ _ t => t
  | .arg _ _ _ => 0
noncomputable def LO.with : LO → List Value → LO
  | .cells _ t, c => .cells c t
  | .row _ t z, c => .row c t z
  | o, _ => o
/-- cells that stand as a list -/
noncomputable def LO.lst : LO → Bool
  | .cells _ _ | .row _ _ _ => true
  | _ => false
theorem LO.own_of_lst {o : LO} (h : o.lst = true) : o.own = true := by cases o <;> first | rfl | (simp [LO.lst] at h)

theorem Rep.block {i : Nat} {o : LO} (hr : Rep ρ H w) (h : H.get i = some o) (hown : o.own = true) :
    ∃ b c' d', ρ i = some b ∧ w.heap[b]? = some (.cells ⟨c' ++ d'⟩ o.ty (0, 0)) ∧ VRL ρ o.cs c' ∧ (∀ c t, o = .cells c t → d' = []) ∧ ρ.off i = 0 := by
  obtain ⟨_, b, o', hb, ho, hor⟩ := hr.obj i o h hown
  cases o with
  | cells c t => obtain ⟨h0, c', h1, rfl⟩ := hor; exact ⟨b, c', [], hb, by rw [List.append_nil]; exact ho, h1, fun _ _ _ => rfl, h0⟩
  | row c t z => obtain ⟨h0, c', d', h1, rfl, _⟩ := hor; exact ⟨b, c', d', hb, ho, h1, (fun _ _ e => by cases e), h0⟩
  | fn k g n t => obtain ⟨h0, _, c', d', rfl, _⟩ := hor; exact ⟨b, [], c' ++ d', hb, ho, by simp [LO.cs, VRL], (fun _ _ e => by cases e), h0⟩
  | arg k g n => simp [LO.own] at hown

theorem flat_at {a : Addr} (hs : a.spot = none) (h0 : ρ.off a.block = 0) : ρ.at a = a.off := by
  unfold Ren.at; rw [hs, h0]; simp

/-! new blocks -/
noncomputable def Ren.ext (ρ : Ren) (i b k wd : Nat) : Ren :=
  ⟨fun j => if j = i then some b else ρ j, fun j => if j = i then k else ρ.cap j, fun j => if j = i then false else ρ.ro j, fun j => if j = i then 0 else ρ.off j, fun j => if j = i then wd else ρ.wd j⟩

theorem Rep.none_next (hr : Rep ρ H w) {i : Nat} (hi : H.next ≤ i) : ρ i = none := by
  cases h : ρ i with
  | none => rfl
  | some b => have := (hr.dom i b h).1; omega

theorem Rep.ext_le (hr : Rep ρ H w) (b k wd : Nat) : Ren.le ρ (ρ.ext H.next b k wd) := fun i x h => by
  have := (hr.dom i x h).1
  refine ⟨?_, ?_, ?_, ?_, ?_⟩ <;> (simp only [Ren.ext]; rw [if_neg (by omega)])

theorem Rep.lt (hr : Rep ρ H w) {i : Nat} {o : LO} (h : H.get i = some o) : i < H.next := hr.ltn i o h
/-- every object is one's own, or a row that is only read -/
theorem LO.arg_or (o : LO) : o.own = true ∨ ∃ k g n, o = .arg k g n := by
  cases o with
  | arg k g n => exact .inr ⟨k, g, n, rfl⟩
  | _ => exact .inl rfl

theorem Rep.new (hr : Rep ρ H w) (hn : H.next + 1 < big) {o : LO} {o' : Obj} (k wd : Nat) (hown : o.own = true) (ho : OR (ρ.ext H.next w.heap.size k wd) H.next o o') :
    Rep (ρ.ext H.next w.heap.size k wd) (H.new o) (w.alloc o') ∧ Fresh ρ (ρ.ext H.next w.heap.size k wd) w ∧ Keep ρ w (w.alloc o') := by
  have hget : ∀ i, (H.new o).get i = if i = H.next then some o else H.get i := fun i => Tr.get_set _ _ _ hr.small i
  have hz : (w.alloc o').heap = w.heap.push o' := rfl
  have hz1 : (w.alloc o').heap.size = w.heap.size + 1 := by rw [hz]; simp
  have hn1 : (H.new o).next = H.next + 1 := rfl
  refine ⟨⟨hn, ?_, ?_, ?_, ?_, ?_⟩, ?_, ?_⟩
  · intro i b h
    simp only [Ren.ext] at h
    rw [hz1, hn1]
    split at h
    · rename_i e; subst e; simp at h; subst h; exact ⟨by omega, by omega⟩
    · have := hr.dom i b h; exact ⟨by omega, by omega⟩
  · intro i j b x hi hx hj h1 h2
    rw [hget] at hi hj
    simp only [Ren.ext] at h1 h2
    by_cases e1 : i = H.next <;> by_cases e2 : j = H.next
    · omega
    · rw [if_pos e1] at h1; rw [if_neg e2] at h2; simp at h1; have := (hr.dom j b h2).2; omega
    · rw [if_neg e1] at h1; rw [if_pos e2] at h2; simp at h2; have := (hr.dom i b h1).2; omega
    · rw [if_neg e1] at h1 hi; rw [if_neg e2] at h2 hj; exact hr.inj i j b x hi hx hj h1 h2
  · intro i x hx
    rw [hget] at hx
    rw [hn1]
    by_cases e : i = H.next
    · omega
    · rw [if_neg e] at hx; have := hr.lt hx; omega
  · intro i x hx hxo
    rw [hget] at hx
    by_cases e : i = H.next
    · rw [if_pos e] at hx; simp at hx; subst hx; subst e
      exact ⟨by simp [Ren.ext], w.heap.size, o', by simp [Ren.ext], by rw [hz]; simp, ho⟩
    · rw [if_neg e] at hx
      obtain ⟨hro, b, y, hb, hy, hor⟩ := hr.obj i x hx hxo
      have := (hr.dom i b hb).2
      exact ⟨by simp only [Ren.ext]; rw [if_neg e]; exact hro, b, y, by simp only [Ren.ext]; rw [if_neg e]; exact hb, by rw [hz, Array.getElem?_push_lt this]; simpa [Array.getElem?_eq_getElem this] using hy,
        OR.mono (hr.ext_le _ _ _) (by simp only [Ren.ext]; rw [if_neg e]) (by simp only [Ren.ext]; rw [if_neg e]) (by simp only [Ren.ext]; rw [if_neg e]) _ _ hor⟩
  · intro i k g n hx
    rw [hget] at hx
    by_cases e : i = H.next
    · rw [if_pos e] at hx; simp at hx; subst hx; simp [LO.own] at hown
    · rw [if_neg e] at hx
      obtain ⟨hro, har⟩ := hr.arg i k g n hx
      refine ⟨by simp only [Ren.ext]; rw [if_neg e]; exact hro, (har.world (fun b hb => ?_)).mono (hr.ext_le _ _ _) (by simp only [Ren.ext]; rw [if_neg e])⟩
      have := (hr.dom i b hb).2
      rw [hz, Array.getElem?_push_lt this]; simp [this]
  · intro i b h
    by_cases e : i = H.next
    · simp only [Ren.ext] at h; rw [if_pos e] at h; simp at h; subst h; exact .inl (Nat.le_refl _)
    · simp only [Ren.ext] at h; rw [if_neg e] at h
      exact .inr ⟨i, h, by simp only [Ren.ext]; rw [if_neg e]; exact id⟩
  · refine ⟨rfl, rfl, rfl, by omega, fun k hk _ => ?_⟩
    rw [hz, Array.getElem?_push_lt hk]; simp [hk]

/-! a block that is written -/
noncomputable def World.setBlk (w : World) (b : Nat) (o : Obj) : World := { w with heap := w.heap.setIfInBounds b o }

theorem Rep.put (hr : Rep ρ H w) {i b : Nat} {o0 o : LO} {o' : Obj} (h0 : H.get i = some o0) (hown : o0.own = true) (hown' : o.own = true) (hb : ρ i = some b) (ho : OR ρ i o o') :
    Rep ρ (H.put i o) (World.setBlk w b o') ∧ Keep ρ w (World.setBlk w b o') := by
  have hi := hr.dom i b hb
  have hget : ∀ j, (H.put i o).get j = if j = i then some o else H.get j := fun j => Tr.get_set _ _ _ (Nat.lt_trans hi.1 hr.small) j
  have hro := (hr.obj i o0 h0 hown).1
  refine ⟨⟨hr.small, ?_, ?_, ?_, ?_, ?_⟩, ?_⟩
  · intro j c h; have := hr.dom j c h; simpa [World.setBlk, Heap.put] using this
  · intro j k c x hj hx hk h1 h2
    have hk' : (H.get k).isSome := by
      rw [hget] at hk; by_cases e : k = i
      · rw [e, h0]; rfl
      · rwa [if_neg e] at hk
    rw [hget] at hj
    by_cases e : j = i
    · subst e; exact hr.inj j k c o0 h0 hown hk' h1 h2
    · rw [if_neg e] at hj; exact hr.inj j k c x hj hx hk' h1 h2
  · intro j x hx
    rw [hget] at hx
    by_cases e : j = i
    · rw [e]; exact hi.1
    · rw [if_neg e] at hx; exact hr.lt hx
  · intro j x hx hxo
    rw [hget] at hx
    by_cases e : j = i
    · rw [if_pos e] at hx; simp at hx; subst hx; subst e
      exact ⟨hro, b, o', hb, by simp [World.setBlk, hi.2], ho⟩
    · rw [if_neg e] at hx
      obtain ⟨hro2, c, y, hc, hy, hor⟩ := hr.obj j x hx hxo
      refine ⟨hro2, c, y, hc, ?_, hor⟩
      have hne : b ≠ c := by
        intro hbc; subst hbc
        exact e (hr.inj i j b o0 h0 hown (by rw [hx]; rfl) hb hc).symm
      simp only [World.setBlk]
      rw [Array.getElem?_setIfInBounds_ne hne]; exact hy
  · intro j k g n hx
    rw [hget] at hx
    by_cases e : j = i
    · rw [if_pos e] at hx; simp at hx; subst hx; simp [LO.own] at hown'
    · rw [if_neg e] at hx
      obtain ⟨hro2, har⟩ := hr.arg j k g n hx
      refine ⟨hro2, har.world (fun c hc => ?_)⟩
      have hne : b ≠ c := by
        intro hbc; subst hbc
        exact e (hr.inj i j b o0 h0 hown (by rw [hx]; rfl) hb hc).symm
      simp only [World.setBlk]
      rw [Array.getElem?_setIfInBounds_ne hne]
  · refine ⟨rfl, rfl, rfl, by simp [World.setBlk], fun k hk hki => ?_⟩
    simp only [World.setBlk]
    rw [Array.getElem?_setIfInBounds_ne (fun (e : b = k) => by
      have := hki i (by rw [← e]; exact hb)
      rw [hro] at this; cases this)]

/-! cells that are written -/
noncomputable def wrL (c : List Value) (o : Nat) : List Value → List Value
  | [] => c
  | v :: r => wrL (c.set o v) (o + 1) r

theorem VRL.wr : ∀ {c c' : List Value} (o : Nat) {vs vs' : List Value}, VRL ρ c c' → VRL ρ vs vs' → VRL ρ (wrL c o vs) (wrL c' o vs')
  | c, c', o, [], vs', h, e => by simp only [VRL] at e; subst e; exact h
  | c, c', o, v :: r, vs', h, e => by
    simp only [VRL] at e
    obtain ⟨v', r', h1, h2, rfl⟩ := e
    exact VRL.wr (o + 1) (VRL.set h o v v' h1) h2

theorem wrL_append : ∀ (c d : List Value) (o : Nat) (vs : List Value), o + vs.length ≤ c.length → wrL (c ++ d) o vs = wrL c o vs ++ d
  | c, d, o, [], _ => rfl
  | c, d, o, v :: r, h => by
    simp only [wrL]
    simp at h
    rw [List.set_append_left _ _ (by omega), wrL_append _ _ _ _ (by simp; omega)]

theorem wrL_length : ∀ (c : List Value) (o : Nat) (vs : List Value), (wrL c o vs).length = c.length
  | c, o, [] => rfl
  | c, o, v :: r => by rw [wrL, wrL_length]; simp

theorem setCell_blk {b o : Nat} {c : Array Value} {t : TypeId} {fr : Nat × Nat} (h : w.heap[b]? = some (.cells c t fr)) (v : Value) :
    w.setCell ⟨b, o, none⟩ v = World.setBlk w b (.cells (c.setIfInBounds o v) t fr) := by
  unfold World.setCell World.setBlk
  congr 1
  apply Array.ext_getElem?
  intro k
  rw [Array.getElem?_modify]
  by_cases hk : b = k
  · subst hk
    have hlt : b < w.heap.size := by
      rcases Nat.lt_or_ge b w.heap.size with h' | h'
      · exact h'
      · rw [Array.getElem?_eq_none h'] at h; cases h
    rw [if_pos rfl, h]; simp [hlt]
  · rw [if_neg hk, Array.getElem?_setIfInBounds_ne hk]

theorem setCells_blk {b : Nat} {t : TypeId} {fr : Nat × Nat} : ∀ (vs : List Value) (o : Nat) (w : World) (c : List Value), w.heap[b]? = some (.cells ⟨c⟩ t fr) →
    w.setCells b o vs = World.setBlk w b (.cells ⟨wrL c o vs⟩ t fr)
  | [], o, w, c, h => by
    simp only [World.setCells, wrL, World.setBlk]
    have : w.heap.setIfInBounds b (.cells ⟨c⟩ t fr) = w.heap := by
      apply Array.ext_getElem?
      intro k
      by_cases hk : b = k
      · subst hk
        have hlt : b < w.heap.size := by
          rcases Nat.lt_or_ge b w.heap.size with h' | h'
          · exact h'
          · rw [Array.getElem?_eq_none h'] at h; cases h
        simp [hlt]; simpa [Array.getElem?_eq_getElem hlt] using h.symm
      · rw [Array.getElem?_setIfInBounds_ne hk]
    rw [this]
  | v :: r, o, w, c, h => by
    have hlt : b < w.heap.size := by
      rcases Nat.lt_or_ge b w.heap.size with h' | h'
      · exact h'
      · rw [Array.getElem?_eq_none h'] at h; cases h
    rw [World.setCells, setCell_blk h v]
    rw [setCells_blk (t := t) (fr := fr) r (o + 1) _ (c.set o v) (by simp [World.setBlk, hlt])]
    simp [World.setBlk, wrL]

theorem one_VR {v v' : Value} (h : one v = true) (hv : VR ρ v v') : v'.oneCell' = true := by
  cases v with
  | bool b => simp only [VR] at hv; subst hv; rfl
  | int k n => simp only [VR] at hv; subst hv; rfl
  | float k n => exact hv.elim
  | complex k a b => exact hv.elim
  | string s => simp only [VR] at hv; subst hv; rfl
  | pointer a => cases a with
    | none => simp only [VR] at hv; subst hv; rfl
    | some a => simp only [VR] at hv; obtain ⟨q, _, rfl⟩ := hv; rfl
  | slice a n c => obtain ⟨a', c', rfl⟩ := VR_slice_shape hv; rfl
  | map r => cases r with
    | none => simp only [VR] at hv; subst hv; rfl
    | some a => simp only [VR] at hv; obtain ⟨q, _, rfl⟩ := hv; rfl
  | chan r => simp [one] at h
  | func fn xs ys => obtain ⟨xs⟩ := xs; obtain ⟨ys⟩ := ys; simp only [VR] at hv; obtain ⟨_, _, _, _, rfl⟩ := hv; rfl
  | nilFunc => simp only [VR] at hv; subst hv; rfl
  | iface t x => simp only [VR] at hv; obtain ⟨_, _, rfl⟩ := hv; rfl
  | nilIface => simp only [VR] at hv; subst hv; rfl
  | agg xs => simp [one] at h
  | tuple xs => simp [one] at h

theorem all_one {vs vs' : List Value} (h : vs.all one = true) (hv : VRL ρ vs vs') : ∀ v ∈ vs', v.oneCell' = true := by
  induction vs generalizing vs' with
  | nil => simp only [VRL] at hv; subst hv; simp
  | cons v r ih =>
    simp only [VRL] at hv
    obtain ⟨v', r', h1, h2, rfl⟩ := hv
    simp only [List.all_cons, Bool.and_eq_true] at h
    intro x hx
    cases hx with
    | head => exact one_VR h.1 h1
    | tail _ hx => exact ih h.2 h2 x hx

noncomputable def cellsL : Value → List Value
  | .agg ⟨cs⟩ => cs
  | v => [v]

theorem cells_VR {v v' : Value} (hv : VR ρ v v') (h : (cellsL v).all one = true) : ∃ cs', VRL ρ (cellsL v) cs' ∧ v'.cells = ⟨cs'⟩ := by
  cases v with
  | agg xs => obtain ⟨xs⟩ := xs; simp only [VR] at hv; obtain ⟨xs', h1, rfl⟩ := hv; exact ⟨xs', h1, rfl⟩
  | _ =>
    refine ⟨[v'], by simp only [cellsL, VRL]; exact ⟨v', [], hv, rfl, rfl⟩, ?_⟩
    have h1 : v'.oneCell' = true := one_VR (by simpa [cellsL] using h) hv
    cases v' <;> first | rfl | (simp [Value.oneCell'] at h1)

theorem wrL_get : ∀ (vs c : List Value) (o m : Nat), o + vs.length ≤ c.length → (wrL c o vs)[m]? = if o ≤ m ∧ m < o + vs.length then vs[m - o]? else c[m]?
  | [], c, o, m, h => by simp only [wrL, List.length_nil]; rw [if_neg (by omega)]
  | v :: r, c, o, m, h => by
    simp only [List.length_cons] at h ⊢
    rw [wrL, wrL_get r (c.set o v) (o + 1) m (by simp; omega)]
    by_cases h1 : m = o
    · subst h1
      rw [if_neg (by omega), if_pos (by omega), List.getElem?_set_self (by omega)]; simp
    · by_cases h2 : o + 1 ≤ m ∧ m < o + 1 + r.length
      · rw [if_pos h2, if_pos (by omega), show m - o = (m - (o + 1)) + 1 by omega]; simp
      · rw [if_neg h2, if_neg (by omega), List.getElem?_set_ne (by omega)]

theorem cell_of {b off : Nat} {c : List Value} {t : TypeId} {fr : Nat × Nat} (h : w.heap[b]? = some (.cells ⟨c⟩ t fr)) : w.cell? ⟨b, off, none⟩ = c[off]? := by
  simp [World.cell?, h]
theorem frozen_of {b off : Nat} {c : List Value} {t : TypeId} (h : w.heap[b]? = some (.cells ⟨c⟩ t (0, 0))) : w.frozen? ⟨b, off, none⟩ = false := by
  simp [World.frozen?, h]

theorem addr_add (b o n : Nat) : (⟨b, o, none⟩ : Addr).add n = ⟨b, o + n, none⟩ := by
  unfold Addr.add; split <;> simp_all

theorem VR_agg {xs xs' : List Value} (h : VRL ρ xs xs') : VR ρ (.agg ⟨xs⟩) (.agg ⟨xs'⟩) := by simp only [VR]; exact ⟨xs', h, rfl⟩

theorem run_isAgg {t : TypeId} {i : TI} (hE : E.Ok P) (ht : E.ty.get t = some i) : (isAgg t).run P w = .ok (isAggD i.desc) w := by
  obtain ⟨hu, _, _⟩ := hE.ty t i ht
  unfold isAgg
  cases hd : i.desc <;> rw [hd] at hu <;> simp [run_underlying hu, isAggD]

theorem run_sizeOf {t : TypeId} {i : TI} (hE : E.Ok P) (ht : E.ty.get t = some i) : (sizeOf t).run P w = .ok i.size w := by
  obtain ⟨_, ⟨j, hj, hs, _, _⟩, _⟩ := hE.ty t i ht
  simp [sizeOf, typeInfo, hj, hs]

/-! ### rows that a function gives -/
/-- one of two values, by a test: what both are of is kept open -/
noncomputable def vif (b : Bool) (x y : Value) : Value :=
  match x, y with
  | .int k m, .int k' n => bif kbeq k k' then .int k (bif b then m else n) else (bif b then .int k m else .int k' n)
  | .bool m, .bool n => .bool (bif b then m else n)
  | .string m, .string n => .string (bif b then m else n)
  | x, y => bif b then x else y
theorem vif_eq (b : Bool) (x y : Value) : vif b x y = bif b then x else y := by
  unfold vif
  split
  · rename_i k m k' n
    cases hk : kbeq k k' with
    | false => rfl
    | true => obtain rfl := kbeq_eq hk; cases b <;> rfl
  · cases b <;> rfl
  · cases b <;> rfl
  · rfl

noncomputable def gL (g : Nat → Nat → Value) (e j : Nat) : Nat → List Value
  | 0 => []
  | s + 1 => g e j :: gL g e (j + 1) s

/-- an element, and a cell in it -/
noncomputable def elemOf (k : Nat) (a : Addr) : Option (Nat × Nat) :=
  match a.spot with
  | some e => some (e, a.off)
  | none => bif Nat.beq k 1 then some (a.off, 0) else none
theorem elemOf_at {k : Nat} {a : Addr} {e j : Nat} (h : elemOf k a = some (e, j)) (hw : ρ.wd a.block = k) : ρ.at a = ρ.off a.block + (e * k + j) := by
  unfold elemOf at h
  unfold Ren.at
  cases hs : a.spot with
  | some i => rw [hs] at h; simp at h; obtain ⟨rfl, rfl⟩ := h; simp [hw]
  | none =>
    rw [hs] at h; simp only at h
    cases hk : Nat.beq k 1 with
    | false => rw [hk] at h; simp at h
    | true =>
      rw [hk] at h; simp at h; obtain ⟨rfl, rfl⟩ := h
      have := Nat.eq_of_beq_eq_true hk
      subst this; simp

theorem GR.append {k n off : Nat} {g : Nat → Nat → Value} {c' : List Value} (hg : GR ρ k g n off c') (d : List Value) : GR ρ k g n off (c' ++ d) :=
  ⟨fun e j he hj => by
    obtain ⟨v', h1, h2⟩ := hg.val e j he hj
    exact ⟨v', by rw [List.getElem?_append_left (List.getElem?_eq_some_iff.1 h1).1]; exact h1, h2⟩, hg.one⟩

/-- a row that a function gives, written by us or only read -/
noncomputable def LO.row? : LO → Option (Nat × (Nat → Nat → Value) × Nat)
  | .fn k g n _ => some (k, g, n)
  | .arg k g n => some (k, g, n)
  | _ => none

/-- what stands in a row, in every world that has kept what there was -/
theorem Rep.gcell {i : Nat} {o : LO} {k n : Nat} {g : Nat → Nat → Value} (hr : Rep ρ H w) (h : H.get i = some o) (hrow : o.row? = some (k, g, n)) :
    ρ.wd i = k ∧ ∀ e j, e < n → j < k → one (g e j) = true ∧ ∃ b v', ρ i = some b ∧ (∀ W : World, (∀ q : Nat, q < w.heap.size → W.heap[q]? = w.heap[q]?) → W.cell? ⟨b, ρ.off i + (e * k + j), none⟩ = some v') ∧ VR ρ (g e j) v' := by
  cases o with
  | cells c t => simp [LO.row?] at hrow
  | row c t z => simp [LO.row?] at hrow
  | fn k' g' n' t =>
    simp only [LO.row?, Option.some.injEq, Prod.mk.injEq] at hrow
    obtain ⟨rfl, rfl, rfl⟩ := hrow
    obtain ⟨_, b, o', hb, ho, h0, hk, c', d', rfl, _, _, hg⟩ := hr.obj i _ h rfl
    refine ⟨hk, fun e j he hj => ⟨hg.one e j he hj, ?_⟩⟩
    obtain ⟨v', h1, h2⟩ := hg.val e j he hj
    refine ⟨b, v', hb, fun W hW => ?_, h2⟩
    have hblk : W.heap[b]? = some (.cells ⟨c' ++ d'⟩ t (0, 0)) := by rw [hW b (hr.dom i b hb).2]; exact ho
    rw [cell_of hblk, h0, List.getElem?_append_left (by have := (List.getElem?_eq_some_iff.1 h1).1; omega)]
    exact h1
  | arg k' g' n' =>
    simp only [LO.row?, Option.some.injEq, Prod.mk.injEq] at hrow
    obtain ⟨rfl, rfl, rfl⟩ := hrow
    obtain ⟨_, har⟩ := hr.arg i _ _ _ h
    refine ⟨har.wd, fun e j he hj => ?_⟩
    obtain ⟨h1, b, v', hb, hc, hv⟩ := har.cell e j he hj
    refine ⟨h1, b, v', hb, fun W hW => ?_, hv⟩
    rw [← hc]; unfold World.cell?; rw [hW b (hr.dom i b hb).2]

/-- .. of several cells one behind the other -/
theorem Rep.gcells {i : Nat} {o : LO} {k n : Nat} {g : Nat → Nat → Value} (hr : Rep ρ H w) (h : H.get i = some o) (hrow : o.row? = some (k, g, n)) {b : Nat} (hb : ρ i = some b) {e : Nat} (he : e < n) : ∀ (s j : Nat), j + s ≤ k →
    ∃ vs', VRL ρ (gL g e j s) vs' ∧ vs'.length = s ∧ ∀ W : World, (∀ q : Nat, q < w.heap.size → W.heap[q]? = w.heap[q]?) → ∀ (q : Nat) v, vs'[q]? = some v → W.cell? ⟨b, ρ.off i + (e * k + j) + q, none⟩ = some v
  | 0, j, _ => ⟨[], by simp [gL, VRL], rfl, fun W _ q v h => by simp at h⟩
  | s + 1, j, hs => by
    obtain ⟨_, b', v', hb', h1, h2⟩ := (hr.gcell h hrow).2 e j he (by omega)
    obtain rfl : b' = b := by rw [hb] at hb'; exact (Option.some.inj hb').symm
    obtain ⟨vs', h3, h4, h5⟩ := Rep.gcells hr h hrow hb he s (j + 1) (by omega)
    refine ⟨v' :: vs', by simp only [gL, VRL]; exact ⟨_, _, h2, h3, rfl⟩, by simp [h4], fun W hW q v hq => ?_⟩
    cases q with
    | zero => simp at hq; subst hq; simpa using h1 W hW
    | succ q =>
      simp at hq
      have := h5 W hW q v hq
      rw [show ρ.off i + (e * k + j) + (q + 1) = ρ.off i + (e * k + (j + 1)) + q by omega]; exact this

/-! ### load -/
noncomputable def loadG (k : Nat) (g : Nat → Nat → Value) (n : Nat) (a : Addr) (i : TI) : ER :=
  match elemOf k a with
  | some (e, j) =>
    bif isAggD i.desc then (bif Nat.ble (j + i.size) k then .tst (Nat.blt e n) (.val (.agg ⟨gL g e j i.size⟩)) .no else .no)
    else (bif Nat.blt j k then .tst (Nat.blt e n) (.val (g e j)) .no else .no)
  | none => .no

noncomputable def evLoad (E : Env) (H : Heap) (t : TypeId) (p : Value) : ER :=
  match p with
  | .pointer (some a) =>
    match H.get a.block, E.ty.get t with
    | some o, some i =>
      match o.row? with
      | some (k, g, n) => loadG k g n a i
      | none =>
        match a.spot with
        | some _ => .no
        | none =>
          bif isAggD i.desc then
            (let l := (o.cs.drop a.off).take i.size
             bif Nat.beq l.length i.size then .val (.agg ⟨l⟩) else .no)
          else (match o.cs[a.off]? with | some v => .val v | none => .no)
    | _, _ => .no
  | _ => .no

noncomputable def UGood (ρ : Ren) (CW : World → Prop) (r : World → Result Next) : ER → Prop
  | .val v => ∃ v', VR ρ v v' ∧ ∀ w, CW w → r w = .ok (.value v') w
  | .tst b x y => (b = true → UGood ρ CW r x) ∧ (b = false → UGood ρ CW r y)
  | _ => True

theorem LO.lst_of {o : LO} (h : o.row? = none) : o.lst = true := by cases o <;> first | rfl | (simp [LO.row?] at h)

theorem evLoad_same (hE : E.Ok P) (hr : Rep ρ H w) (t : TypeId) {p p' : Value} (hp : VR ρ p p') :
    UGood ρ (fun W => ∀ k : Nat, k < w.heap.size → W.heap[k]? = w.heap[k]?) (fun W => valued ((Instr.loadAt t p').run P W)) (evLoad E H t p) := by
  unfold evLoad
  split
  · rename_i a
    simp only [VR] at hp
    obtain ⟨b, hb, rfl⟩ := hp
    split
    · rename_i o i ho ht
      split
      · rename_i k g n hrow
        obtain ⟨hk, hg⟩ := hr.gcell ho hrow
        unfold loadG
        cases hel : elemOf k a with
        | none => simp [UGood]
        | some ej =>
          obtain ⟨e, j⟩ := ej
          simp only
          have hat := elemOf_at (ρ := ρ) hel hk
          cases hag : isAggD i.desc with
          | true =>
            simp only [cond_true]
            cases hle : Nat.ble (j + i.size) k with
            | false => simp [UGood]
            | true =>
              simp only [cond_true, UGood]
              refine ⟨fun he => ?_, fun _ => trivial⟩
              have he' : e < n := by simpa [Nat.blt_eq] using he
              obtain ⟨vs', h1, h2, h3⟩ := hr.gcells ho hrow hb he' i.size j (Nat.le_of_ble_eq_true hle)
              refine ⟨_, VR_agg h1, fun W hW => ?_⟩
              have hload : (loadCells ⟨b, ρ.at a, none⟩ i.size).run P W = .ok ⟨vs'⟩ W := by
                have := run_loadCells_list (P := P) W ⟨b, ρ.at a, none⟩ vs' (fun q v hq => by
                  rw [addr_add, hat]; exact h3 W hW q v hq)
                rw [h2] at this
                exact this
              simp [valued, Instr.loadAt, Instr.sureAddr, loadVar, run_isAgg hE ht, hag, run_sizeOf hE ht, hload]
          | false =>
            simp only [cond_false]
            cases hlt : Nat.blt j k with
            | false => simp [UGood]
            | true =>
              simp only [cond_true, UGood]
              refine ⟨fun he => ?_, fun _ => trivial⟩
              have he' : e < n := by simpa [Nat.blt_eq] using he
              have hj' : j < k := by simpa [Nat.blt_eq] using hlt
              obtain ⟨_, b', v', hb', h1, h2⟩ := hg e j he' hj'
              obtain rfl : b' = b := by rw [hb] at hb'; exact (Option.some.inj hb').symm
              refine ⟨v', h2, fun W hW => ?_⟩
              have hcell : W.cell? ⟨b', ρ.at a, none⟩ = some v' := by rw [hat]; exact h1 W hW
              simp [valued, Instr.loadAt, Instr.sureAddr, loadVar, run_isAgg hE ht, hag, run_load, hcell]
      · rename_i hrow
        cases hs : a.spot with
        | some q => simp [UGood]
        | none =>
        simp only
        obtain ⟨b', c', d', hb', hblk, hc, _, h0⟩ := hr.block ho (LO.own_of_lst (LO.lst_of hrow))
        obtain rfl : b' = b := by rw [hb] at hb'; exact (Option.some.inj hb').symm
        rw [flat_at hs h0]
        have hbs : b' < w.heap.size := (hr.dom _ _ hb).2
        cases hag : isAggD i.desc with
        | true =>
          simp only [cond_true]
          cases hl : Nat.beq ((o.cs.drop a.off).take i.size).length i.size with
          | false => simp [UGood]
          | true =>
            simp only [cond_true]
            have hl' := Nat.eq_of_beq_eq_true hl
            have hcl := VRL.length hc
            refine ⟨_, VR_agg (VRL.take i.size (VRL.drop a.off hc)), fun W hW => ?_⟩
            have hblk' : W.heap[b']? = some (.cells ⟨c' ++ d'⟩ o.ty (0, 0)) := by rw [hW b' hbs]; exact hblk
            have hload : (loadCells ⟨b', a.off, none⟩ i.size).run P W = .ok ⟨(c'.drop a.off).take i.size⟩ W := by
              have hl2 : ((c'.drop a.off).take i.size).length = i.size := by
                simp only [List.length_take, List.length_drop] at hl' ⊢; omega
              have := run_loadCells_list (P := P) W ⟨b', a.off, none⟩ ((c'.drop a.off).take i.size) (fun j v hj => by
                rw [addr_add, cell_of hblk']
                have hjl : j < i.size := by
                  have := (List.getElem?_eq_some_iff.1 hj).1; omega
                rw [List.getElem?_take_of_lt hjl, List.getElem?_drop] at hj
                rw [List.getElem?_append_left (by have := (List.getElem?_eq_some_iff.1 hj).1; omega)]
                exact hj)
              rw [hl2] at this
              exact this
            simp [valued, Instr.loadAt, Instr.sureAddr, loadVar, run_isAgg hE ht, hag, run_sizeOf hE ht, hload]
        | false =>
          simp only [cond_false]
          cases hv : o.cs[a.off]? with
          | none => simp [UGood]
          | some v =>
            obtain ⟨v', h1, h2⟩ := VRL.get hc a.off v hv
            refine ⟨v', h2, fun W hW => ?_⟩
            have hblk' : W.heap[b']? = some (.cells ⟨c' ++ d'⟩ o.ty (0, 0)) := by rw [hW b' hbs]; exact hblk
            have hcell : W.cell? ⟨b', a.off, none⟩ = some v' := by
              rw [cell_of hblk', List.getElem?_append_left (List.getElem?_eq_some_iff.1 h1).1]; exact h1
            simp [valued, Instr.loadAt, Instr.sureAddr, loadVar, run_isAgg hE ht, hag, run_load, hcell]
    · simp [UGood]
  · simp [UGood]

/-- only values, tests, and nothing else -/
noncomputable def ER.pure : ER → Bool
  | .val _ | .no => true
  | .tst _ x y => x.pure && y.pure
  | _ => false
theorem good_of_UGood {CW : World → Prop} {r : World → Result Next} (hw : CW w) : ∀ (x : ER), x.pure = true → UGood ρ CW r x → Next.Good P ρ w (r w) x
  | .val v, _, h => by obtain ⟨v', h1, h2⟩ := h; exact ⟨v', h1, h2 w hw⟩
  | .tst b x y, hp, h => by
    simp only [ER.pure, Bool.and_eq_true] at hp
    exact ⟨fun e => good_of_UGood hw x hp.1 (h.1 e), fun e => good_of_UGood hw y hp.2 (h.2 e)⟩
  | .no, _, _ => trivial
  | .mem _ _, hp, _ => by simp [ER.pure] at hp
  | .skip _, hp, _ => by simp [ER.pure] at hp
  | .call _ _, hp, _ => by simp [ER.pure] at hp
theorem evLoad_pure (E : Env) (H : Heap) (t : TypeId) (p : Value) : (evLoad E H t p).pure = true := by
  unfold evLoad
  split
  · rename_i a
    split
    · rename_i o i ho ht
      split
      · rename_i k g n hrow
        unfold loadG
        cases hel : elemOf k a with
        | none => rfl
        | some ej =>
          simp only
          cases isAggD i.desc with
          | true => cases h : Nat.ble (ej.2 + i.size) k <;> simp [ER.pure]
          | false => cases h : Nat.blt ej.2 k <;> simp [ER.pure]
      · cases hs : a.spot with
        | some q => rfl
        | none =>
          simp only
          cases isAggD i.desc with
          | true => simp only [cond_true]; cases Nat.beq ((o.cs.drop a.off).take i.size).length i.size <;> rfl
          | false => simp only [cond_false]; cases o.cs[a.off]? <;> rfl
    · rfl
  · rfl
theorem evLoad_good (hE : E.Ok P) (hr : Rep ρ H w) (t : TypeId) {p p' : Value} (hp : VR ρ p p') :
    Next.Good P ρ w (valued ((Instr.loadAt t p').run P w)) (evLoad E H t p) :=
  good_of_UGood (CW := fun W => ∀ k : Nat, k < w.heap.size → W.heap[k]? = w.heap[k]?) (r := fun W => valued ((Instr.loadAt t p').run P W)) (fun _ _ => rfl) _ (evLoad_pure E H t p) (evLoad_same hE hr t hp)

/-! ### store -/
noncomputable def updG (g : Nat → Nat → Value) (e j : Nat) (l : List Value) : Nat → Nat → Value :=
  fun e' j' => bif Nat.ble j j' && Nat.blt j' (j + l.length) then vif (Nat.beq e' e) ((l[j' - j]?).getD undef) (g e' j') else g e' j'

noncomputable def evStore (E : Env) (H : Heap) (t : TypeId) (p v : Value) : ER :=
  match p with
  | .pointer (some a) =>
    match H.get a.block, E.ty.get t with
    | some o, some i =>
      let l := cellsL v
      match o with
      | .fn k g n ty =>
        match elemOf k a with
        | some (e, j) => bif Nat.beq l.length i.size && l.all one && Nat.ble (j + l.length) k then .tst (Nat.blt e n) (.skip (H.put a.block (.fn k (updG g e j l) n ty))) .no else .no
        | none => .no
      | .arg _ _ _ => .no
      | o =>
        match a.spot with
        | some _ => .no
        | none => bif Nat.beq l.length i.size && l.all one && Nat.ble (a.off + l.length) o.cs.length then .skip (H.put a.block (o.with (wrL o.cs a.off l))) else .no
    | _, _ => .no
  | _ => .no

theorem updG_GR {k n off e j : Nat} {g : Nat → Nat → Value} {c' l l' : List Value} (hg : GR ρ k g n off c') (he : e < n) (hj : j + l.length ≤ k) (hl : VRL ρ l l') (h1 : l.all one = true) (hlen : off + n * k ≤ c'.length) :
    GR ρ k (updG g e j l) n off (wrL c' (off + (e * k + j)) l') := by
  have hll := VRL.length hl
  have hek : e * k + k ≤ n * k := by
    have : (e + 1) * k ≤ n * k := Nat.mul_le_mul_right k he
    rw [Nat.add_mul] at this; omega
  have key : ∀ e' j', e' < n → j' < k → ((off + (e * k + j) ≤ off + (e' * k + j') ∧ off + (e' * k + j') < off + (e * k + j) + l'.length) ↔ (e' = e ∧ j ≤ j' ∧ j' < j + l.length)) := by
    intro e' j' he' hj'
    constructor
    · intro h
      have : e' = e := by
        rcases Nat.lt_trichotomy e' e with h3 | h3 | h3
        · have : (e' + 1) * k ≤ e * k := Nat.mul_le_mul_right k h3
          rw [Nat.add_mul] at this; omega
        · exact h3
        · have : (e + 1) * k ≤ e' * k := Nat.mul_le_mul_right k h3
          rw [Nat.add_mul] at this; omega
      subst this; exact ⟨rfl, by omega, by omega⟩
    · rintro ⟨rfl, h2, h3⟩; omega
  refine ⟨fun e' j' he' hj' => ?_, fun e' j' he' hj' => ?_⟩
  · rw [wrL_get _ _ _ _ (by omega)]
    obtain ⟨v', hv1, hv2⟩ := hg.val e' j' he' hj'
    unfold updG
    cases hc : (Nat.ble j j' && Nat.blt j' (j + l.length)) with
    | false =>
      simp only [cond_false]
      rw [if_neg (by
        rw [key e' j' he' hj']
        rintro ⟨_, h2, h3⟩
        have : (Nat.ble j j' && Nat.blt j' (j + l.length)) = true := by rw [Bool.and_eq_true]; exact ⟨Nat.ble_eq_true_of_le h2, by simpa [Nat.blt_eq] using h3⟩
        rw [this] at hc; cases hc)]
      exact ⟨v', hv1, hv2⟩
    | true =>
      simp only [cond_true]
      rw [vif_eq]
      rw [Bool.and_eq_true] at hc
      have h2 := Nat.le_of_ble_eq_true hc.1
      have h3 : j' < j + l.length := by simpa [Nat.blt_eq] using hc.2
      cases hb : Nat.beq e' e with
      | false =>
        simp only [cond_false]
        have := Nat.ne_of_beq_eq_false hb
        rw [if_neg (by rw [key e' j' he' hj']; rintro ⟨h4, _⟩; exact this h4)]
        exact ⟨v', hv1, hv2⟩
      | true =>
        simp only [cond_true]
        have := Nat.eq_of_beq_eq_true hb
        subst this
        rw [if_pos ((key e' j' he' hj').2 ⟨rfl, h2, h3⟩)]
        have hget : l[j' - j]? = some (l[j' - j]'(by omega)) := List.getElem?_eq_getElem (by omega)
        rw [hget]
        obtain ⟨u, hu1, hu2⟩ := VRL.get hl _ _ hget
        refine ⟨u, ?_, hu2⟩
        rw [← hu1]; congr 1; omega
  · unfold updG
    cases hc : (Nat.ble j j' && Nat.blt j' (j + l.length)) with
    | false => simp only [cond_false]; exact hg.one e' j' he' hj'
    | true =>
      simp only [cond_true]
      rw [vif_eq]
      rw [Bool.and_eq_true] at hc
      have h2 := Nat.le_of_ble_eq_true hc.1
      have h3 : j' < j + l.length := by simpa [Nat.blt_eq] using hc.2
      cases hb : Nat.beq e' e with
      | false => exact hg.one e' j' he' hj'
      | true =>
        simp only [cond_true]
        have hget : l[j' - j]? = some (l[j' - j]'(by omega)) := List.getElem?_eq_getElem (by omega)
        rw [hget]
        exact List.all_eq_true.1 h1 _ (List.getElem_mem _)

theorem evStore_good (hE : E.Ok P) (hr : Rep ρ H w) (t : TypeId) {p p' v v' : Value} (hp : VR ρ p p') (hv : VR ρ v v') :
    Next.Good P ρ w (((Instr.storeAt t p' v').run P w).andThen fun _ w => .ok .skip w) (evStore E H t p v) := by
  unfold evStore
  split
  · rename_i a
    simp only [VR] at hp
    obtain ⟨b, hb, rfl⟩ := hp
    split
    · rename_i o i ho ht
      simp only
      split
      · rename_i k g n ty
        cases hel : elemOf k a with
        | none => simp [Next.Good]
        | some ej =>
          obtain ⟨e, j⟩ := ej
          simp only
          cases hcond : (Nat.beq (cellsL v).length i.size && (cellsL v).all one && Nat.ble (j + (cellsL v).length) k) with
          | false => simp [Next.Good]
          | true =>
            simp only [cond_true, Next.Good]
            refine ⟨fun he => ?_, fun _ => trivial⟩
            have he' : e < n := by simpa [Nat.blt_eq] using he
            simp only [Bool.and_eq_true] at hcond
            obtain ⟨⟨h1, h2⟩, h3⟩ := hcond
            have h1' := Nat.eq_of_beq_eq_true h1
            have h3' := Nat.le_of_ble_eq_true h3
            obtain ⟨cs', hcs, hcells⟩ := cells_VR hv h2
            have hl1 := VRL.length hcs
            obtain ⟨_, b', o', hb', hblk, h0, hk, c', d', rfl, hcl, hcap, hg⟩ := hr.obj _ _ ho rfl
            obtain rfl : b' = b := by rw [hb] at hb'; exact (Option.some.inj hb').symm
            have hat := elemOf_at (ρ := ρ) hel hk
            rw [h0, Nat.zero_add] at hat
            have hek : e * k + k ≤ n * k := by
              have : (e + 1) * k ≤ n * k := Nat.mul_le_mul_right k he'
              rw [Nat.add_mul] at this; omega
            have hst := run_storeCells_cells (P := P) b' (e * k + j) cs' 0 w (fun q hq => by
                rw [cell_of hblk]; rw [List.getElem?_eq_getElem (by simp; omega)]; rfl)
              (fun q hq => frozen_of hblk) (all_one h2 hcs)
            rw [setCells_blk cs' (e * k + j + 0) w (c' ++ d') hblk, Nat.add_zero, wrL_append _ _ _ _ (by omega)] at hst
            have hnew := updG_GR (off := 0) hg he' h3' hcs h2 (by omega)
            rw [Nat.zero_add] at hnew
            have hor : OR ρ a.block (.fn k (updG g e j (cellsL v)) n ty) (.cells ⟨wrL c' (e * k + j) cs' ++ d'⟩ ty (0, 0)) :=
              ⟨h0, hk, _, _, rfl, by rw [wrL_length]; exact hcl, by rw [wrL_length]; exact hcap, hnew⟩
            obtain ⟨hrep, hkeep⟩ := hr.put ho rfl rfl hb hor
            refine ⟨_, ?_, hrep, hkeep⟩
            have hsz : v'.cells.size = i.size := by rw [hcells]; simp; omega
            have hlist : v'.cells.toList = cs' := by rw [hcells]
            simp [Instr.storeAt, Instr.sureAddr, storeVar, run_sizeOf hE ht, hsz, hlist, hat, hst]
      · simp [Next.Good]
      · rename_i o' hn1 hn2
        cases hs : a.spot with
        | some q => simp [Next.Good]
        | none =>
        simp only
        have hlst : o.lst = true := by
          cases o with
          | cells c t => rfl
          | row c t z => rfl
          | fn k g n t => exact absurd rfl (hn1 k g n t)
          | arg k g n => exact absurd rfl (hn2 k g n)
        have hown := LO.own_of_lst hlst
        obtain ⟨b', c', d', hb', hblk, hc, hex, h0⟩ := hr.block ho hown
        obtain rfl : b' = b := by rw [hb] at hb'; exact (Option.some.inj hb').symm
        rw [flat_at hs h0]
        cases hcond : (Nat.beq (cellsL v).length i.size && (cellsL v).all one && Nat.ble (a.off + (cellsL v).length) o.cs.length) with
        | false => simp [Next.Good]
        | true =>
          simp only [cond_true]
          simp only [Bool.and_eq_true] at hcond
          obtain ⟨⟨h1, h2⟩, h3⟩ := hcond
          have h1' := Nat.eq_of_beq_eq_true h1
          have h3' := Nat.le_of_ble_eq_true h3
          obtain ⟨cs', hcs, hcells⟩ := cells_VR hv h2
          have hl1 := VRL.length hcs
          have hl2 := VRL.length hc
          have hst := run_storeCells_cells (P := P) b' a.off cs' 0 w (fun j hj => by
              rw [cell_of hblk]; rw [List.getElem?_eq_getElem (by simp; omega)]; rfl)
            (fun j hj => frozen_of hblk) (all_one h2 hcs)
          rw [setCells_blk cs' (a.off + 0) w (c' ++ d') hblk, Nat.add_zero, wrL_append _ _ _ _ (by omega)] at hst
          have hw' : (o.with (wrL o.cs a.off (cellsL v))).own = true := by cases o <;> first | rfl | (simp [LO.lst] at hlst)
          have hor : OR ρ a.block (o.with (wrL o.cs a.off (cellsL v))) (.cells ⟨wrL c' a.off cs' ++ d'⟩ o.ty (0, 0)) := by
            have hw := VRL.wr a.off hc hcs
            cases o with
            | cells c t => obtain rfl := hex c t rfl; exact ⟨h0, _, hw, by simp [LO.ty]⟩
            | row c t z =>
              obtain ⟨_, bb, oo, hbb, hoo, _, c2, d2, g1, g2, g3⟩ := hr.obj _ _ ho rfl
              obtain rfl : bb = b' := by rw [hb] at hbb; exact (Option.some.inj hbb).symm
              rw [hblk] at hoo; obtain rfl := Option.some.inj hoo
              refine ⟨h0, _, _, hw, rfl, ?_⟩
              have hlen : (wrL c' a.off cs').length = c'.length := by rw [VRL.length hw, wrL_length, hl2]
              have g4 : (c' ++ d').length = (c2 ++ d2).length := by simp only [Obj.cells.injEq] at g2; exact congrArg (fun x : Array Value => x.toList.length) g2.1
              rw [hlen]; simp at g4; omega
            | fn k g n t => simp [LO.lst] at hlst
            | arg k g n => simp [LO.lst] at hlst
          obtain ⟨hrep, hkeep⟩ := hr.put (o := o.with (wrL o.cs a.off (cellsL v))) ho hown hw' hb hor
          refine ⟨_, ?_, hrep, hkeep⟩
          have hsz : v'.cells.size = i.size := by rw [hcells]; simp; omega
          have hlist : v'.cells.toList = cs' := by rw [hcells]
          simp [Instr.storeAt, Instr.sureAddr, storeVar, run_sizeOf hE ht, hsz, hlist, hst]
    · simp [Next.Good]
  · simp [Next.Good]
end
end Go.Ly
