/- The second framework, parts W6. -/
import Derived.Test.YtkoeiednpbedlaaDoorLyW
/- Part W6: small heaps with tokens in greater ones. -/
namespace Go.Ly
open Go.RowKit
set_option linter.unusedSimpArgs false
set_option linter.unusedVariables false
/-! ### both: a small heap with tokens in a greater one -/
/-- no token anywhere -/
def Clean (H : Heap) : Prop := ∀ i o, H.get i = some o → noTokO o = true
theorem noTok_ok {ps : List Nat} {v : Value} (h : noTok v = true) : tokOk ps v = true := by
  unfold tokOk
  split
  · simp [noTok] at h
  · exact h
theorem noTok_un {c : List Value} {v : Value} (h : noTok v = true) : unTok c v = v := by
  unfold unTok
  split
  · simp [noTok] at h
  · rfl
theorem noTokL_ok {ps : List Nat} : ∀ {l : List Value}, noTokL l = true → l.all (tokOk ps) = true
  | [], _ => rfl
  | v :: r, h => by
    simp only [noTokL, Bool.and_eq_true] at h
    rw [List.all_cons, noTok_ok h.1, noTokL_ok h.2]; rfl
theorem noTokL_un {c : List Value} : ∀ {l : List Value}, noTokL l = true → l.map (unTok c) = l
  | [], _ => rfl
  | v :: r, h => by
    simp only [noTokL, Bool.and_eq_true] at h
    rw [List.map_cons, noTok_un h.1, noTokL_un h.2]
theorem noTokO_ok {ps : List Nat} {o : LO} (h : noTokO o = true) : tokOkO ps o = true := by
  cases o with
  | cells c t => exact noTokL_ok h
  | row c t z => exact noTokL_ok h
  | fn k g n t => rfl
  | arg k g n => rfl
theorem noTokO_un {c : List Value} {o : LO} (h : noTokO o = true) : unO c o = o := by
  cases o with
  | cells l t => simp only [unO, noTokL_un h]
  | row l t z => simp only [unO, noTokL_un h]
  | fn k g n t => rfl
  | arg k g n => rfl
theorem Clean.weak {H K : Heap} (h : ∀ i o, K.get i = some o → H.get i = some o) (hc : Clean H) : Clean K := fun i o e => hc i o (h i o e)
section
variable {P : Program} {f : FuncId} {args : List Value} {H : Heap}
/-- what a call makes of a heap: the blocks I are given, the others as they were -/
structure Made (H : Heap) (os : List (Option LO)) (L I : List Nat) (nx : Nat) (os' : List (Option LO)) (H' : Heap) : Prop where
  lock : H'.lock = 0
  next : H'.next = H.next + (nx - os.length)
  now : ∀ (j i : Nat) (o : Option LO), I[j]? = some i → os'[j]? = some o → H'.get (tau L H.next i) = o
  old : ∀ k, k < H.next → k ∉ L → H'.get k = H.get k
  clean : Clean H'
theorem Ends.made {os os' : List (Option LO)} {I L : List Nat} {v : Value} {nx : Nat} (h : Ends P f args os I v nx os') (hB : fitB os I nx = true) (hs : Sit H os L) (hbig : H.next + nx < big) (hc : Clean H)
    (hno : ∀ o ∈ os', ∀ x, o = some x → noTokO (renO (tau L H.next) x) = true) :
    LCalls P f (renL (tau L H.next) args) H (fun u H' => u = renV (tau L H.next) v ∧ Made H os L I nx (os'.map (Option.map (renO (tau L H.next)))) H') := by
  refine (h.fit hB hs hbig).mono ?_
  rintro u H' ⟨rfl, h1, h2, h3, h4, h5⟩
  refine ⟨rfl, h1, h2, fun j i o hj ho => ?_, h4, fun k o ho => ?_⟩
  · rw [List.getElem?_map, Option.map_eq_some_iff] at ho
    obtain ⟨o1, e1, rfl⟩ := ho
    exact h3 j i o1 hj e1
  · rcases h5 k o ho with ⟨_, _, h6⟩ | ⟨j, i, o', hj, ho', rfl, rfl⟩
    · exact hc k o h6
    · exact hno _ (List.mem_of_getElem? ho') o' rfl
theorem Ends.madeTok {os os' : List (Option LO)} {I L : List Nat} {v : Value} {nx b0 : Nat} {c : List Value} {t : TypeId} {ps : List Nat} (h : Ends P f args os I v nx os') (hB : fitB os I nx = true) (hl : H.lock = 0)
    (hcell : H.get b0 = some (.cells c t)) (hb0 : b0 ∈ L) (hs : Sit (H.put b0 (.cells (tokAt ps 0 c) t)) os L) (hbig : H.next + nx < big) (hc : Clean H)
    (hps : (ps.all fun p => Nat.blt p c.length) = true) (hargs : noTokL (renL (tau L H.next) args) = true) (hv : noTok (renV (tau L H.next) v) = true)
    (hno : ∀ o ∈ os', ∀ x, o = some x → tokOkO ps (renO (tau L H.next) x) = true ∧ noTokO (unO c (renO (tau L H.next) x)) = true) :
    LCalls P f (renL (tau L H.next) args) H (fun u H' => u = renV (tau L H.next) v ∧ Made H os L I nx (os'.map (Option.map (fun x => unO c (renO (tau L H.next) x)))) H') := by
  refine LCalls.ltn fun hlt hsm => ?_
  have hbb : b0 < big := Nat.lt_trans (hlt b0 _ hcell) hsm
  have hget := fun i => Heap.get_put (H := H) (o := .cells (tokAt ps 0 c) t) hbb i
  refine (LCalls.untok hl hcell hc hargs hps (h.fit hB hs hbig) ?_).mono ?_
  · rintro u K ⟨rfl, h1, h2, h3, h4, h5⟩
    refine ⟨hv, h1, fun i o ho => ?_⟩
    rcases h5 i o ho with ⟨_, hi, h6⟩ | ⟨j, i, o', hj, ho', rfl, rfl⟩
    · rw [hget] at h6
      split at h6
      · rename_i e; exact absurd (by rw [e]; exact hb0) hi
      · exact noTokO_ok (hc i o h6)
    · exact (hno _ (List.mem_of_getElem? ho') o' rfl).1
  · rintro u K' ⟨K, ⟨rfl, h1, h2, h3, h4, h5⟩, k1, k2, k3⟩
    refine ⟨rfl, k2, by rw [k1]; exact h2, fun j i o hj ho => ?_, fun k hk hkL => ?_, fun k o ho => ?_⟩
    · rw [List.getElem?_map, Option.map_eq_some_iff] at ho
      obtain ⟨o1, e1, rfl⟩ := ho
      have e2 := h3 j i o1 hj e1
      rw [k3]
      show (K.get (tau L H.next i)).map (unO c) = _
      have e2' : K.get (tau L H.next i) = o1.map (renO (tau L H.next)) := e2
      rw [e2', Option.map_map]; rfl
    · have e3 := h4 k hk hkL
      have : K.get k = H.get k := by
        rw [e3, hget, if_neg (fun e => hkL (by rw [e]; exact hb0))]
      rw [k3, this]
      cases hx : H.get k with
      | none => rfl
      | some o => rw [Option.map_some, noTokO_un (hc k o hx)]
    · rw [k3, Option.map_eq_some_iff] at ho
      obtain ⟨o1, e1, rfl⟩ := ho
      rcases h5 k o1 e1 with ⟨_, hi, h6⟩ | ⟨j, i, o', hj, ho', rfl, rfl⟩
      · rw [hget] at h6
        split at h6
        · rename_i e; exact absurd (by rw [e]; exact hb0) hi
        · rw [noTokO_un (hc k o1 h6)]; exact hc k o1 h6
      · exact (hno _ (List.mem_of_getElem? ho') o' rfl).2
end
/-! ### functions that read one row of constants and answer a new one -/
section
variable {P : Program} {ρ : Ren} {H : Heap} {w w' : World}
theorem cst_eq {v v' : Value} (h : cst v = true) (hv : VR ρ v v') : v' = v := by
  unfold cst at h
  split at h <;> first | (simp only [VR] at hv; exact hv) | cases h
theorem GR.any {ρ' : Ren} {k n off : Nat} {g : Nat → Nat → Value} {c : List Value} (h : GR ρ k g n off c) : GR ρ' k g n off c :=
  ⟨fun e j he hj => by
    obtain ⟨v', h1, h2⟩ := h.val e j he hj
    exact ⟨v', h1, VR_cst (h.one e j he hj) h2⟩, h.one⟩
theorem view_rows {k : Nat} (hr : Rep ρ H w) {a : Addr} {n c : Nat} {x' : Value} {gd : Bool} {v : Rw} (hx : VR ρ (.slice (some a) n c) x') (h : srcR H k (.slice (some a) n c) = some (gd, v)) (hgd : gd = true) (hc : v.csts = true) :
    v.n = n ∧ ∃ p, RealRows w k (v.fun k) n x' p := by
  obtain ⟨l', a1, c1, hok, hx', hcells⟩ := srcR_cells hr hx h hgd
  obtain ⟨a', c', rfl⟩ := VR_slice_some hx
  have hvn : v.n = n := by injection hx' with _ e _; exact e.symm
  have hg := hok.gr hc
  have hval : ∀ e j, e < n → j < k → l'[e * k + j]? = some (v.fun k e j) := by
    intro e j he hj
    obtain ⟨u, h1, h2⟩ := hg.val e j (by omega) hj
    rw [Nat.zero_add] at h1
    rw [h1, cst_eq (hg.one e j (by omega) hj) h2]
  refine ⟨hvn, ?_⟩
  have hsh := hx
  simp only [VR] at hsh
  obtain ⟨a2, c2, e2, hn2, _, haddr⟩ := hsh
  injection e2 with e3 _ e4
  simp only [Option.some.injEq] at e3
  subst e3 e4
  have hone : ∀ e j, e < n → j < k → cst (v.fun k e j) = true := fun e j he hj => hg.one e j (by omega) hj
  by_cases hn : n = 0
  · exact ⟨none, ⟨_, _, rfl, hn2, fun h0 => absurd hn h0⟩, (fun _ e => by cases e), (fun e j he => by omega), hone⟩
  · obtain ⟨b, hb, rfl, _⟩ := haddr hn
    refine ⟨some ⟨b, ρ.at a, c'⟩, ⟨_, _, rfl, hn2, fun _ => ⟨_, rfl, rfl, rfl⟩⟩, fun q e => ?_, fun e j he hj => ⟨_, rfl, ?_⟩, hone⟩
    · simp only [Option.some.injEq] at e; subst e; exact (hr.dom _ _ hb).2
    · exact hcells _ _ (hval e j he hj) b hb
/-- one block more, that no number stands for yet -/
theorem Rep.extNew (hr : Rep ρ H w) (hn : H.next + 1 < big) {o : LO} {o' : Obj} {b k wd : Nat} (hown : o.own = true) (hb : b < w.heap.size) (hnew : ∀ i, ρ i ≠ some b) (hw : w.heap[b]? = some o') (ho : OR (ρ.ext H.next b k wd) H.next o o') (hfx : fixed b = none) :
    Rep (ρ.ext H.next b k wd) (H.new o) w := by
  have hget : ∀ i, (H.new o).get i = if i = H.next then some o else H.get i := fun i => Tr.get_set _ _ _ hr.small i
  have hn1 : (H.new o).next = H.next + 1 := rfl
  have hle := hr.ext_le b k wd
  refine ⟨hn, ?_, ?_, ?_, ?_, ?_, ⟨hr.fix.held, fun i x o e hi => ?_⟩⟩
  rotate_right
  · simp only [Ren.ext] at hi ⊢
    split at hi
    · simp at hi; subst hi; rw [hfx] at e; cases e
    · rename_i e1; rw [if_neg e1]; exact hr.fix.ro i x o e hi
  · intro i x h
    simp only [Ren.ext] at h
    rw [hn1]
    split at h
    · rename_i e; subst e; simp at h; subst h; exact ⟨by omega, hb⟩
    · have := hr.dom i x h; exact ⟨by omega, this.2⟩
  · intro i j y x hi hx hj h1 h2
    rw [hget] at hi hj
    simp only [Ren.ext] at h1 h2
    by_cases e1 : i = H.next <;> by_cases e2 : j = H.next
    · omega
    · rw [if_pos e1] at h1; rw [if_neg e2] at h2; simp at h1; subst h1; exact absurd h2 (hnew j)
    · rw [if_neg e1] at h1; rw [if_pos e2] at h2; simp at h2; subst h2; exact absurd h1 (hnew i)
    · rw [if_neg e1] at h1 hi; rw [if_neg e2] at h2 hj; exact hr.inj i j y x hi hx hj h1 h2
  · intro i x hx
    rw [hget] at hx
    rw [hn1]
    by_cases e : i = H.next
    · omega
    · rw [if_neg e] at hx; have := hr.lt hx; omega
  · intro i x hx hxo
    rw [hget] at hx
    by_cases e : i = H.next
    · rw [if_pos e] at hx; simp at hx; subst hx; subst e
      exact ⟨fun _ => by simp [Ren.ext], b, o', by simp [Ren.ext], hw, ho⟩
    · rw [if_neg e] at hx
      obtain ⟨q1, y, oy, q2, q3, q4⟩ := hr.obj i x hx hxo
      have hs := hle i y q2
      refine ⟨fun hl => by rw [hs.ro]; exact q1 hl, y, oy, by rw [hs.b]; exact q2, q3, q4.mono hle ?_ ?_ ?_⟩
      · exact hs.cap
      · exact hs.off
      · exact hs.wd
  · intro i k' g n hx
    rw [hget] at hx
    by_cases e : i = H.next
    · rw [if_pos e] at hx; simp at hx; subst hx; simp [LO.own] at hown
    · rw [if_neg e] at hx
      obtain ⟨q1, q2⟩ := hr.arg i k' g n hx
      refine ⟨by simp [Ren.ext, e]; exact q1, q2.mono hle ?_⟩
      simp [Ren.ext, e]
/-- a slice of row number i, by its elements -/
noncomputable def sls (i n : Nat) : Value := .slice (some ⟨i, 0, some 0⟩) n 18446744073709551616
theorem VR_sls {i n : Nat} {v : Value} (h : VR ρ (sl i n) v) : VR ρ (sls i n) v := by
  have e : ρ.at ⟨i, 0, some 0⟩ = ρ.at ⟨i, 0, none⟩ := by simp [Ren.at]
  simp only [sl, sls, VR] at h ⊢
  rw [e]; exact h
theorem calls_new {f : FuncId} {args0 args' : List Value} {os : List (Option LO)} {ρ1 : Ren} {r N : Nat} {k' : Nat} {g' : Nat → Nat → Value} {t : TypeId}
    (h : LCalls P f args0 (mkH os) (fun u K => u = sl r N ∧ K.get r = some (.fn k' g' N t) ∧ K.lock = 0)) (ha : VRL ρ1 args0 args') (hr1 : Rep ρ1 (mkH os) w) (hro : ∀ i, ρ1.ro i = true)
    (hr : Rep ρ H w) (hn : H.next + 1 < big) :
    Calls P f ⟨args'⟩ w (fun e w' => ∃ ρ' v v' H', e = .returned v' ∧ (v = sl H.next N ∧ H' = H.new (.fn k' g' N t)) ∧ Ren.le ρ ρ' ∧ Fresh ρ ρ' w ∧ VR ρ' v v' ∧ Rep ρ' H' w' ∧ Keep ρ w w') := by
  refine (h ρ1 args' w ha hr1).mono ?_
  rintro e w' ⟨ρ2, u, u', K, rfl, ⟨rfl, hK, hlk⟩, h1, h2, h3, h4, h5⟩
  have hbel : Below w.heap.size w w' := ⟨h5.os, h5.tape, h5.output, h5.size, fun k hk => h5.block k hk (fun i _ => hro i)⟩
  obtain ⟨q1, b, o', q2, q3, q4⟩ := h4.obj r _ hK rfl
  have hro2 : ρ2.ro r = false := q1 (by rw [hlk]; exact Nat.zero_le _)
  have hbnew : w.heap.size ≤ b := by
    rcases h2 r b q2 with h6 | ⟨j, _, h6⟩
    · exact h6
    · have := h6 hro2; rw [hro j] at this; cases this
  have hrB := hr.below hbel
  have hnone : ∀ i, ρ i ≠ some b := fun i e => by have := (hr.dom i b e).2; omega
  obtain ⟨z1, z2, c', d', z3, z4, z5, z6⟩ := q4
  have hOR : OR (ρ.ext H.next b (ρ2.cap r) k') H.next (.fn k' g' N t) o' := by
    refine ⟨by simp [Ren.ext], by simp [Ren.ext], c', d', z3, z4, by simp [Ren.ext]; exact z5, z6.any⟩
  have hRep := hrB.extNew (k := ρ2.cap r) (wd := k') hn rfl (h4.dom r b q2).2 hnone q3 hOR (by
    cases hf : fixed b with
    | none => rfl
    | some o => have := hr.fix.lt hf; omega)
  refine ⟨ρ.ext H.next b (ρ2.cap r) k', sl H.next N, u', _, rfl, ⟨rfl, rfl⟩, hr.ext_le _ _ _, fun i x hx => ?_, ?_, hRep, Below.toKeep hbel⟩
  · simp only [Ren.ext] at hx
    split at hx
    · simp at hx; subst hx; exact .inl hbnew
    · rename_i e; exact .inr ⟨i, hx, by simp [Ren.ext, e]⟩
  · simp only [sl, VR] at h3 ⊢
    obtain ⟨a', c2, rfl, y1, y2, y3⟩ := h3
    refine ⟨a', c2, rfl, y1, y2, fun hN => ?_⟩
    obtain ⟨b', x1, x2, x3⟩ := y3 hN
    have hbb : b' = b := by
      have x1' : ρ2 r = some b' := x1
      rw [q2] at x1'; simp at x1'; exact x1'.symm
    subst hbb
    refine ⟨b', by simp [Ren.ext], ?_, ?_⟩
    · rw [x2]; simp [Ren.at, Ren.ext, z1]
    · intro hc _
      have := x3 hc (by simp [Ren.at, z1])
      simpa [Ren.ext] using this
noncomputable def rowNew (k : Nat) (mk : Nat → (Nat → Nat → Value) → Bool × (Nat → Nat → Value) × Nat) (k' : Nat) (t : TypeId) (H : Heap) (args : List Value) : ER :=
  match args with
  | [x] =>
    match srcR H k x with
    | some (g1, u) => bif Nat.beq H.lock 0 && Nat.blt (H.next + 1) 2147483000 then
        .tst (g1 && (u.csts && (mk u.n (u.fun k)).1)) (.mem (sl H.next (mk u.n (u.fun k)).2.2) (H.new (.fn k' (mk u.n (u.fun k)).2.1 (mk u.n (u.fun k)).2.2 t))) .no else .no
    | none => .no
  | _ => .no
theorem rowNew_good {k k' : Nat} {t : TypeId} {f : FuncId} {mk : Nat → (Nat → Nat → Value) → Bool × (Nat → Nat → Value) × Nat} (hp : 0 < k)
    (hS : ∀ n G, (mk n G).1 = true → ∃ r, LCalls P f [sls 0 n] (mkH [some (.arg k G n)]) (fun u K => u = sl r (mk n G).2.2 ∧ K.get r = some (.fn k' (mk n G).2.1 (mk n G).2.2 t) ∧ K.lock = 0))
    (hN : ∀ G, (mk 0 G).1 = true → ∃ r, LCalls P f [.slice none 0 0] (mkH []) (fun u K => u = sl r (mk 0 G).2.2 ∧ K.get r = some (.fn k' (mk 0 G).2.1 (mk 0 G).2.2 t) ∧ K.lock = 0))
    (H : Heap) (args : List Value) : HGood P f args H (rowNew k mk k' t H args) := by
  unfold rowNew
  split
  · rename_i x
    cases h1 : srcR H k x with
    | none => exact trivial
    | some gu =>
      obtain ⟨g1, u⟩ := gu
      simp only
      cases hb0 : (Nat.beq H.lock 0 && Nat.blt (H.next + 1) 2147483000) with
      | false => exact trivial
      | true =>
        rw [Bool.and_eq_true] at hb0
        have hb : H.next + 1 < big := by have := hb0.2; unfold big; simpa [Nat.blt_eq] using this
        refine ⟨fun hg => ?_, fun _ => trivial⟩
        simp only [Bool.and_eq_true] at hg
        obtain ⟨e1, e2, e3⟩ := hg
        intro ρ args' w ha hr
        haveI := hr.fix.w
        simp only [VRL] at ha
        obtain ⟨x', _, hx, rfl, rfl⟩ := ha
        rcases nil_or h1 with ⟨rfl, rfl⟩ | ⟨a, n, c, rfl⟩
        · simp only [VR] at hx; subst hx
          obtain ⟨r, hL⟩ := hN _ e3
          exact calls_new (ρ1 := rowsRen []) hL (by simp [VRL, VR]) (rows_rep (rs := []) rfl (by simp) (by simp) (by simp)) (fun _ => rfl) hr hb
        · obtain ⟨hun, p, hrow⟩ := view_rows hr hx h1 e1 e2
          rw [hun] at e3 ⊢
          obtain ⟨r, hL⟩ := hS n _ e3
          refine calls_new (ρ1 := rowsRenW [p] (fun _ => k)) hL (by simp only [VRL]; exact ⟨x', [], VR_sls (slW_VR hrow (by simp)), rfl, rfl⟩)
            (rowsW_rep (l := [p]) (rs := [(k, u.fun k, n)]) rfl (by simp) (by
              intro i q hq
              rcases i with _ | i
              · simp at hq; exact hrow.low q hq
              · simp at hq) (by
              intro i k2 g2 n2 h0
              rcases i with _ | i
              · simp at h0; obtain ⟨rfl, rfl, rfl⟩ := h0
                refine ⟨rfl, fun e j he hj => ⟨hrow.one e j he hj, ?_⟩⟩
                obtain ⟨q, h3, h4⟩ := hrow.cell e j he hj
                exact ⟨q, by simp [h3], h4⟩
              · simp at h0)) (fun _ => rfl) hr hb
  · exact trivial
end
/-! ### rows that are the same as far as they reach -/
section
variable {P : Program} {Q : Value → Heap → Prop} {f : FuncId} {args : List Value}
theorem Rep.argEq {ρ : Ren} {w : World} {k n : Nat} {g g' : Nat → Nat → Value} (he : ∀ e j, e < n → j < k → g e j = g' e j) (hr : Rep ρ (mkH [some (.arg k g n)]) w) : Rep ρ (mkH [some (.arg k g' n)]) w := by
  have hget : ∀ (g : Nat → Nat → Value) i, (mkH [some (.arg k g n)]).get i = if i = 0 then some (.arg k g n) else none := by
    intro g i
    rw [mkH_get _ (by simp [big])]
    rcases i with _ | i
    · simp
    · simp
  refine ⟨hr.small, hr.dom, fun i j b o hi ho => ?_, fun i o ho => ?_, fun i o ho hown => ?_, fun i k2 g2 n2 ho => ?_, hr.fix⟩
  · rw [hget] at hi; split at hi
    · simp only [Option.some.injEq] at hi; subst hi; simp [LO.own] at ho
    · cases hi
  · rw [hget] at ho; split at ho
    · rename_i e; subst e; show 0 < 1; omega
    · cases ho
  · rw [hget] at ho; split at ho
    · simp only [Option.some.injEq] at ho; subst ho; simp [LO.own] at hown
    · cases ho
  · rw [hget] at ho; split at ho
    · rename_i e; subst e
      simp only [Option.some.injEq, LO.arg.injEq] at ho
      obtain ⟨rfl, rfl, rfl⟩ := ho
      obtain ⟨h1, h2⟩ := hr.arg 0 k g n (by rw [hget]; rfl)
      refine ⟨h1, h2.wd, fun e j h3 h4 => ?_⟩
      rw [← he e j h3 h4]; exact h2.cell e j h3 h4
    · cases ho
theorem LCalls.argEq {k n : Nat} {g g' : Nat → Nat → Value} (he : ∀ e j, e < n → j < k → g e j = g' e j) (h : LCalls P f args (mkH [some (.arg k g' n)]) Q) : LCalls P f args (mkH [some (.arg k g n)]) Q :=
  fun ρ args' w ha hr => h ρ args' w ha (hr.argEq he)
theorem MWp.weakQ {S : St} {Q' : Value → Heap → Prop} (h : MWp P S Q) (hq : ∀ v K, Q v K → ∃ K', Q' v K' ∧ WeakH K K') : MWp P S Q' := by
  intro ρ w g gs R hr hf hfl hk
  refine h ρ w g gs R hr hf hfl (fun ρ' v v' H' w' h1 h2 h3 h4 h5 h6 => ?_)
  obtain ⟨K', k1, k2⟩ := hq v H' h1
  exact hk ρ' v v' K' w' k1 h2 h3 h4 (h5.weak k2) h6
theorem weak_mkH {os os' : List (Option LO)} (h : Each2 OLeq os os') (hl : os.length < big) : WeakH (mkH os) (mkH os') := by
  have hlen := h.length
  refine ⟨hlen.symm, rfl, fun i o ho => ?_⟩
  rw [mkH_get _ (by omega)] at ho
  rw [mkH_get _ hl]
  rcases Nat.lt_or_ge i os.length with hi | hi
  · rw [List.getElem?_eq_getElem (by omega)] at ho
    have := h.get i _ _ (List.getElem?_eq_getElem hi) (List.getElem?_eq_getElem (by omega))
    rw [List.getElem?_eq_getElem hi]
    simp only [Option.getD_some] at ho ⊢
    rw [ho] at this
    cases hx : os[i] with
    | none => rw [hx] at this; exact this.elim
    | some x => rw [hx] at this; exact ⟨x, rfl, .inr this⟩
  · rw [List.getElem?_eq_none (by omega)] at ho; cases ho
end
end Go.Ly
