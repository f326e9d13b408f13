/- Part 7 of the texts that the law needs, laid together. By program (pack.py). -/
import Derived.Test.YtnknopebjdgdjaaPfe
import Derived.Test.YtnknopebjdgdjaaPff
import Derived.KernelRfl
import Derived.Laws.BitsLemmas
import Derived.Laws.BitsAllLaws
import Derived.OpenShut
set_option linter.unusedVariables false
set_option linter.unusedSimpArgs false
noncomputable section
namespace Go.Ly
open Go.RowKit
def Clean (H : Heap) : Prop := ∀ i o, H.get i = some o → noTokO o = true
theorem noTok_ok {ps : List Nat} {v : Value} (h : noTok v = true) : tokOk ps v = true := by
  unfold tokOk
  split
  · simp [noTok] at h
  · exact h
theorem noTok_un {c : List Value} {v : Value} (h : noTok v = true) : unTok c v = v := by
  unfold unTok
  split
  · simp [noTok] at h
  · rfl
theorem noTokL_ok {ps : List Nat} : ∀ {l : List Value}, noTokL l = true → l.all (tokOk ps) = true
  | [], _ => rfl
  | v :: r, h => by
    simp only [noTokL, Bool.and_eq_true] at h
    rw [List.all_cons, noTok_ok h.1, noTokL_ok h.2]; rfl
theorem noTokL_un {c : List Value} : ∀ {l : List Value}, noTokL l = true → l.map (unTok c) = l
  | [], _ => rfl
  | v :: r, h => by
    simp only [noTokL, Bool.and_eq_true] at h
    rw [List.map_cons, noTok_un h.1, noTokL_un h.2]
theorem noTokO_ok {ps : List Nat} {o : LO} (h : noTokO o = true) : tokOkO ps o = true := by
  cases o with
  | cells c t => exact noTokL_ok h
  | row c t z => exact noTokL_ok h
  | fn k g n t => rfl
  | arg k g n => rfl
theorem noTokO_un {c : List Value} {o : LO} (h : noTokO o = true) : unO c o = o := by
  cases o with
  | cells l t => simp only [unO, noTokL_un h]
  | row l t z => simp only [unO, noTokL_un h]
  | fn k g n t => rfl
  | arg k g n => rfl
section
variable {P : Program} {f : FuncId} {args : List Value} {H : Heap}
structure Made (H : Heap) (os : List (Option LO)) (L I : List Nat) (nx : Nat) (os' : List (Option LO)) (H' : Heap) : Prop where
  lock : H'.lock = 0
  next : H'.next = H.next + (nx - os.length)
  now : ∀ (j i : Nat) (o : Option LO), I[j]? = some i → os'[j]? = some o → H'.get (tau L H.next i) = o
  old : ∀ k, k < H.next → k ∉ L → H'.get k = H.get k
  clean : Clean H'
theorem Ends.madeTok {os os' : List (Option LO)} {I L : List Nat} {v : Value} {nx b0 : Nat} {c : List Value} {t : TypeId} {ps : List Nat} (h : Ends P f args os I v nx os') (hB : fitB os I nx = true) (hl : H.lock = 0)
    (hcell : H.get b0 = some (.cells c t)) (hb0 : b0 ∈ L) (hs : Sit (H.put b0 (.cells (tokAt ps 0 c) t)) os L) (hbig : H.next + nx < big) (hc : Clean H)
    (hps : (ps.all fun p => Nat.blt p c.length) = true) (hargs : noTokL (renL (tau L H.next) args) = true) (hv : noTok (renV (tau L H.next) v) = true)
    (hno : ∀ o ∈ os', ∀ x, o = some x → tokOkO ps (renO (tau L H.next) x) = true ∧ noTokO (unO c (renO (tau L H.next) x)) = true) :
    LCalls P f (renL (tau L H.next) args) H (fun u H' => u = renV (tau L H.next) v ∧ Made H os L I nx (os'.map (Option.map (fun x => unO c (renO (tau L H.next) x)))) H') := by
  refine LCalls.ltn fun hlt hsm => ?_
  have hbb : b0 < big := Nat.lt_trans (hlt b0 _ hcell) hsm
  have hget := fun i => Heap.get_put (H := H) (o := .cells (tokAt ps 0 c) t) hbb i
  refine (LCalls.untok hl hcell hc hargs hps (h.fit hB hs hbig) ?_).mono ?_
  · rintro u K ⟨rfl, h1, h2, h3, h4, h5⟩
    refine ⟨hv, h1, fun i o ho => ?_⟩
    rcases h5 i o ho with ⟨_, hi, h6⟩ | ⟨j, i, o', hj, ho', rfl, rfl⟩
    · rw [hget] at h6
      split at h6
      · rename_i e; exact absurd (by rw [e]; exact hb0) hi
      · exact noTokO_ok (hc i o h6)
    · exact (hno _ (List.mem_of_getElem? ho') o' rfl).1
  · rintro u K' ⟨K, ⟨rfl, h1, h2, h3, h4, h5⟩, k1, k2, k3⟩
    refine ⟨rfl, k2, by rw [k1]; exact h2, fun j i o hj ho => ?_, fun k hk hkL => ?_, fun k o ho => ?_⟩
    · rw [List.getElem?_map, Option.map_eq_some_iff] at ho
      obtain ⟨o1, e1, rfl⟩ := ho
      have e2 := h3 j i o1 hj e1
      rw [k3]
      show (K.get (tau L H.next i)).map (unO c) = _
      have e2' : K.get (tau L H.next i) = o1.map (renO (tau L H.next)) := e2
      rw [e2', Option.map_map]; rfl
    · have e3 := h4 k hk hkL
      have : K.get k = H.get k := by
        rw [e3, hget, if_neg (fun e => hkL (by rw [e]; exact hb0))]
      rw [k3, this]
      cases hx : H.get k with
      | none => rfl
      | some o => rw [Option.map_some, noTokO_un (hc k o hx)]
    · rw [k3, Option.map_eq_some_iff] at ho
      obtain ⟨o1, e1, rfl⟩ := ho
      rcases h5 k o1 e1 with ⟨_, hi, h6⟩ | ⟨j, i, o', hj, ho', rfl, rfl⟩
      · rw [hget] at h6
        split at h6
        · rename_i e; exact absurd (by rw [e]; exact hb0) hi
        · rw [noTokO_un (hc k o1 h6)]; exact hc k o1 h6
      · exact (hno _ (List.mem_of_getElem? ho') o' rfl).2
end
section
variable {P : Program} {ρ : Ren} {H : Heap} {w w' : World}
theorem cst_eq {v v' : Value} (h : cst v = true) (hv : VR ρ v v') : v' = v := by
  unfold cst at h
  split at h <;> first | (simp only [VR] at hv; exact hv) | cases h
theorem GR.any {ρ' : Ren} {k n off : Nat} {g : Nat → Nat → Value} {c : List Value} (h : GR ρ k g n off c) : GR ρ' k g n off c :=
  ⟨fun e j he hj => by
    obtain ⟨v', h1, h2⟩ := h.val e j he hj
    exact ⟨v', h1, VR_cst (h.one e j he hj) h2⟩, h.one⟩
theorem view_rows {k : Nat} (hr : Rep ρ H w) {a : Addr} {n c : Nat} {x' : Value} {gd : Bool} {v : Rw} (hx : VR ρ (.slice (some a) n c) x') (h : srcR H k (.slice (some a) n c) = some (gd, v)) (hgd : gd = true) (hc : v.csts = true) :
    v.n = n ∧ ∃ p, RealRows w k (v.fun k) n x' p := by
  obtain ⟨l', a1, c1, hok, hx', hcells⟩ := srcR_cells hr hx h hgd
  obtain ⟨a', c', rfl⟩ := VR_slice_some hx
  have hvn : v.n = n := by injection hx' with _ e _; exact e.symm
  have hg := hok.gr hc
  have hval : ∀ e j, e < n → j < k → l'[e * k + j]? = some (v.fun k e j) := by
    intro e j he hj
    obtain ⟨u, h1, h2⟩ := hg.val e j (by omega) hj
    rw [Nat.zero_add] at h1
    rw [h1, cst_eq (hg.one e j (by omega) hj) h2]
  refine ⟨hvn, ?_⟩
  have hsh := hx
  simp only [VR] at hsh
  obtain ⟨a2, c2, e2, hn2, _, haddr⟩ := hsh
  injection e2 with e3 _ e4
  simp only [Option.some.injEq] at e3
  subst e3 e4
  have hone : ∀ e j, e < n → j < k → cst (v.fun k e j) = true := fun e j he hj => hg.one e j (by omega) hj
  by_cases hn : n = 0
  · exact ⟨none, ⟨_, _, rfl, hn2, fun h0 => absurd hn h0⟩, (fun _ e => by cases e), (fun e j he => by omega), hone⟩
  · obtain ⟨b, hb, rfl, _⟩ := haddr hn
    refine ⟨some ⟨b, ρ.at a, c'⟩, ⟨_, _, rfl, hn2, fun _ => ⟨_, rfl, rfl, rfl⟩⟩, fun q e => ?_, fun e j he hj => ⟨_, rfl, ?_⟩, hone⟩
    · simp only [Option.some.injEq] at e; subst e; exact (hr.dom _ _ hb).2
    · exact hcells _ _ (hval e j he hj) b hb
theorem Rep.extNew (hr : Rep ρ H w) (hn : H.next + 1 < big) {o : LO} {o' : Obj} {b k wd : Nat} (hown : o.own = true) (hb : b < w.heap.size) (hnew : ∀ i, ρ i ≠ some b) (hw : w.heap[b]? = some o') (ho : OR (ρ.ext H.next b k wd) H.next o o') :
    Rep (ρ.ext H.next b k wd) (H.new o) w := by
  have hget : ∀ i, (H.new o).get i = if i = H.next then some o else H.get i := fun i => Tr.get_set _ _ _ hr.small i
  have hn1 : (H.new o).next = H.next + 1 := rfl
  have hle := hr.ext_le b k wd
  refine ⟨hn, ?_, ?_, ?_, ?_, ?_⟩
  · intro i x h
    simp only [Ren.ext] at h
    rw [hn1]
    split at h
    · rename_i e; subst e; simp at h; subst h; exact ⟨by omega, hb⟩
    · have := hr.dom i x h; exact ⟨by omega, this.2⟩
  · intro i j y x hi hx hj h1 h2
    rw [hget] at hi hj
    simp only [Ren.ext] at h1 h2
    by_cases e1 : i = H.next <;> by_cases e2 : j = H.next
    · omega
    · rw [if_pos e1] at h1; rw [if_neg e2] at h2; simp at h1; subst h1; exact absurd h2 (hnew j)
    · rw [if_neg e1] at h1; rw [if_pos e2] at h2; simp at h2; subst h2; exact absurd h1 (hnew i)
    · rw [if_neg e1] at h1 hi; rw [if_neg e2] at h2 hj; exact hr.inj i j y x hi hx hj h1 h2
  · intro i x hx
    rw [hget] at hx
    rw [hn1]
    by_cases e : i = H.next
    · omega
    · rw [if_neg e] at hx; have := hr.lt hx; omega
  · intro i x hx hxo
    rw [hget] at hx
    by_cases e : i = H.next
    · rw [if_pos e] at hx; simp at hx; subst hx; subst e
      exact ⟨fun _ => by simp [Ren.ext], b, o', by simp [Ren.ext], hw, ho⟩
    · rw [if_neg e] at hx
      obtain ⟨q1, y, oy, q2, q3, q4⟩ := hr.obj i x hx hxo
      have hs := hle i y q2
      refine ⟨fun hl => by rw [hs.ro]; exact q1 hl, y, oy, by rw [hs.b]; exact q2, q3, q4.mono hle ?_ ?_ ?_⟩
      · exact hs.cap
      · exact hs.off
      · exact hs.wd
  · intro i k' g n hx
    rw [hget] at hx
    by_cases e : i = H.next
    · rw [if_pos e] at hx; simp at hx; subst hx; simp [LO.own] at hown
    · rw [if_neg e] at hx
      obtain ⟨q1, q2⟩ := hr.arg i k' g n hx
      refine ⟨by simp [Ren.ext, e]; exact q1, q2.mono hle ?_⟩
      simp [Ren.ext, e]
def sls (i n : Nat) : Value := .slice (some ⟨i, 0, some 0⟩) n 18446744073709551616
theorem VR_sls {i n : Nat} {v : Value} (h : VR ρ (sl i n) v) : VR ρ (sls i n) v := by
  have e : ρ.at ⟨i, 0, some 0⟩ = ρ.at ⟨i, 0, none⟩ := by simp [Ren.at]
  simp only [sl, sls, VR] at h ⊢
  rw [e]; exact h
theorem calls_new {f : FuncId} {args0 args' : List Value} {os : List (Option LO)} {ρ1 : Ren} {r N : Nat} {k' : Nat} {g' : Nat → Nat → Value} {t : TypeId}
    (h : LCalls P f args0 (mkH os) (fun u K => u = sl r N ∧ K.get r = some (.fn k' g' N t) ∧ K.lock = 0)) (ha : VRL ρ1 args0 args') (hr1 : Rep ρ1 (mkH os) w) (hro : ∀ i, ρ1.ro i = true)
    (hr : Rep ρ H w) (hn : H.next + 1 < big) :
    Calls P f ⟨args'⟩ w (fun e w' => ∃ ρ' v v' H', e = .returned v' ∧ (v = sl H.next N ∧ H' = H.new (.fn k' g' N t)) ∧ Ren.le ρ ρ' ∧ Fresh ρ ρ' w ∧ VR ρ' v v' ∧ Rep ρ' H' w' ∧ Keep ρ w w') := by
  refine (h ρ1 args' w ha hr1).mono ?_
  rintro e w' ⟨ρ2, u, u', K, rfl, ⟨rfl, hK, hlk⟩, h1, h2, h3, h4, h5⟩
  have hbel : Below w.heap.size w w' := ⟨h5.os, h5.tape, h5.output, h5.size, fun k hk => h5.block k hk (fun i _ => hro i)⟩
  obtain ⟨q1, b, o', q2, q3, q4⟩ := h4.obj r _ hK rfl
  have hro2 : ρ2.ro r = false := q1 (by rw [hlk]; exact Nat.zero_le _)
  have hbnew : w.heap.size ≤ b := by
    rcases h2 r b q2 with h6 | ⟨j, _, h6⟩
    · exact h6
    · have := h6 hro2; rw [hro j] at this; cases this
  have hrB := hr.below hbel
  have hnone : ∀ i, ρ i ≠ some b := fun i e => by have := (hr.dom i b e).2; omega
  obtain ⟨z1, z2, c', d', z3, z4, z5, z6⟩ := q4
  have hOR : OR (ρ.ext H.next b (ρ2.cap r) k') H.next (.fn k' g' N t) o' := by
    refine ⟨by simp [Ren.ext], by simp [Ren.ext], c', d', z3, z4, by simp [Ren.ext]; exact z5, z6.any⟩
  have hRep := hrB.extNew (k := ρ2.cap r) (wd := k') hn rfl (h4.dom r b q2).2 hnone q3 hOR
  refine ⟨ρ.ext H.next b (ρ2.cap r) k', sl H.next N, u', _, rfl, ⟨rfl, rfl⟩, hr.ext_le _ _ _, fun i x hx => ?_, ?_, hRep, Below.toKeep hbel⟩
  · simp only [Ren.ext] at hx
    split at hx
    · simp at hx; subst hx; exact .inl hbnew
    · rename_i e; exact .inr ⟨i, hx, by simp [Ren.ext, e]⟩
  · simp only [sl, VR] at h3 ⊢
    obtain ⟨a', c2, rfl, y1, y2, y3⟩ := h3
    refine ⟨a', c2, rfl, y1, y2, fun hN => ?_⟩
    obtain ⟨b', x1, x2, x3⟩ := y3 hN
    have hbb : b' = b := by
      have x1' : ρ2 r = some b' := x1
      rw [q2] at x1'; simp at x1'; exact x1'.symm
    subst hbb
    refine ⟨b', by simp [Ren.ext], ?_, ?_⟩
    · rw [x2]; simp [Ren.at, Ren.ext, z1]
    · intro hc _
      have := x3 hc (by simp [Ren.at, z1])
      simpa [Ren.ext] using this
def rowNew (k : Nat) (mk : Nat → (Nat → Nat → Value) → Bool × (Nat → Nat → Value) × Nat) (k' : Nat) (t : TypeId) (H : Heap) (args : List Value) : ER :=
  match args with
  | [x] =>
    match srcR H k x with
    | some (g1, u) => bif Nat.beq H.lock 0 && Nat.blt (H.next + 1) 2147483000 then
        .tst (g1 && (u.csts && (mk u.n (u.fun k)).1)) (.mem (sl H.next (mk u.n (u.fun k)).2.2) (H.new (.fn k' (mk u.n (u.fun k)).2.1 (mk u.n (u.fun k)).2.2 t))) .no else .no
    | none => .no
  | _ => .no
theorem rowNew_good {k k' : Nat} {t : TypeId} {f : FuncId} {mk : Nat → (Nat → Nat → Value) → Bool × (Nat → Nat → Value) × Nat} (hp : 0 < k)
    (hS : ∀ n G, (mk n G).1 = true → ∃ r, LCalls P f [sls 0 n] (mkH [some (.arg k G n)]) (fun u K => u = sl r (mk n G).2.2 ∧ K.get r = some (.fn k' (mk n G).2.1 (mk n G).2.2 t) ∧ K.lock = 0))
    (hN : ∀ G, (mk 0 G).1 = true → ∃ r, LCalls P f [.slice none 0 0] (mkH []) (fun u K => u = sl r (mk 0 G).2.2 ∧ K.get r = some (.fn k' (mk 0 G).2.1 (mk 0 G).2.2 t) ∧ K.lock = 0))
    (H : Heap) (args : List Value) : HGood P f args H (rowNew k mk k' t H args) := by
  unfold rowNew
  split
  · rename_i x
    cases h1 : srcR H k x with
    | none => exact trivial
    | some gu =>
      obtain ⟨g1, u⟩ := gu
      simp only
      cases hb0 : (Nat.beq H.lock 0 && Nat.blt (H.next + 1) 2147483000) with
      | false => exact trivial
      | true =>
        rw [Bool.and_eq_true] at hb0
        have hb : H.next + 1 < big := by have := hb0.2; unfold big; simpa [Nat.blt_eq] using this
        refine ⟨fun hg => ?_, fun _ => trivial⟩
        simp only [Bool.and_eq_true] at hg
        obtain ⟨e1, e2, e3⟩ := hg
        intro ρ args' w ha hr
        simp only [VRL] at ha
        obtain ⟨x', _, hx, rfl, rfl⟩ := ha
        rcases nil_or h1 with ⟨rfl, rfl⟩ | ⟨a, n, c, rfl⟩
        · simp only [VR] at hx; subst hx
          obtain ⟨r, hL⟩ := hN _ e3
          exact calls_new (ρ1 := rowsRen []) hL (by simp [VRL, VR]) (rows_rep (rs := []) rfl (by simp) (by simp) (by simp)) (fun _ => rfl) hr hb
        · obtain ⟨hun, p, hrow⟩ := view_rows hr hx h1 e1 e2
          rw [hun] at e3 ⊢
          obtain ⟨r, hL⟩ := hS n _ e3
          refine calls_new (ρ1 := rowsRenW [p] (fun _ => k)) hL (by simp only [VRL]; exact ⟨x', [], VR_sls (slW_VR hrow (by simp)), rfl, rfl⟩)
            (rowsW_rep (l := [p]) (rs := [(k, u.fun k, n)]) rfl (by simp) (by
              intro i q hq
              rcases i with _ | i
              · simp at hq; exact hrow.low q hq
              · simp at hq) (by
              intro i k2 g2 n2 h0
              rcases i with _ | i
              · simp at h0; obtain ⟨rfl, rfl, rfl⟩ := h0
                refine ⟨rfl, fun e j he hj => ⟨hrow.one e j he hj, ?_⟩⟩
                obtain ⟨q, h3, h4⟩ := hrow.cell e j he hj
                exact ⟨q, by simp [h3], h4⟩
              · simp at h0)) (fun _ => rfl) hr hb
  · exact trivial
end
section
variable {P : Program} {Q : Value → Heap → Prop} {f : FuncId} {args : List Value}
theorem Rep.argEq {ρ : Ren} {w : World} {k n : Nat} {g g' : Nat → Nat → Value} (he : ∀ e j, e < n → j < k → g e j = g' e j) (hr : Rep ρ (mkH [some (.arg k g n)]) w) : Rep ρ (mkH [some (.arg k g' n)]) w := by
  have hget : ∀ (g : Nat → Nat → Value) i, (mkH [some (.arg k g n)]).get i = if i = 0 then some (.arg k g n) else none := by
    intro g i
    rw [mkH_get _ (by simp [big])]
    rcases i with _ | i
    · simp
    · simp
  refine ⟨hr.small, hr.dom, fun i j b o hi ho => ?_, fun i o ho => ?_, fun i o ho hown => ?_, fun i k2 g2 n2 ho => ?_⟩
  · rw [hget] at hi; split at hi
    · simp only [Option.some.injEq] at hi; subst hi; simp [LO.own] at ho
    · cases hi
  · rw [hget] at ho; split at ho
    · rename_i e; subst e; show 0 < 1; omega
    · cases ho
  · rw [hget] at ho; split at ho
    · simp only [Option.some.injEq] at ho; subst ho; simp [LO.own] at hown
    · cases ho
  · rw [hget] at ho; split at ho
    · rename_i e; subst e
      simp only [Option.some.injEq, LO.arg.injEq] at ho
      obtain ⟨rfl, rfl, rfl⟩ := ho
      obtain ⟨h1, h2⟩ := hr.arg 0 k g n (by rw [hget]; rfl)
      refine ⟨h1, h2.wd, fun e j h3 h4 => ?_⟩
      rw [← he e j h3 h4]; exact h2.cell e j h3 h4
    · cases ho
theorem LCalls.argEq {k n : Nat} {g g' : Nat → Nat → Value} (he : ∀ e j, e < n → j < k → g e j = g' e j) (h : LCalls P f args (mkH [some (.arg k g' n)]) Q) : LCalls P f args (mkH [some (.arg k g n)]) Q :=
  fun ρ args' w ha hr => h ρ args' w ha (hr.argEq he)
theorem MWp.weakQ {S : St} {Q' : Value → Heap → Prop} (h : MWp P S Q) (hq : ∀ v K, Q v K → ∃ K', Q' v K' ∧ WeakH K K') : MWp P S Q' := by
  intro ρ w g gs R hr hf hfl hk
  refine h ρ w g gs R hr hf hfl (fun ρ' v v' H' w' h1 h2 h3 h4 h5 h6 => ?_)
  obtain ⟨K', k1, k2⟩ := hq v H' h1
  exact hk ρ' v v' K' w' k1 h2 h3 h4 (h5.weak k2) h6
theorem weak_mkH {os os' : List (Option LO)} (h : Each2 OLeq os os') (hl : os.length < big) : WeakH (mkH os) (mkH os') := by
  have hlen := h.length
  refine ⟨hlen.symm, rfl, fun i o ho => ?_⟩
  rw [mkH_get _ (by omega)] at ho
  rw [mkH_get _ hl]
  rcases Nat.lt_or_ge i os.length with hi | hi
  · rw [List.getElem?_eq_getElem (by omega)] at ho
    have := h.get i _ _ (List.getElem?_eq_getElem hi) (List.getElem?_eq_getElem (by omega))
    rw [List.getElem?_eq_getElem hi]
    simp only [Option.getD_some] at ho ⊢
    rw [ho] at this
    cases hx : os[i] with
    | none => rw [hx] at this; exact this.elim
    | some x => rw [hx] at this; exact ⟨x, rfl, .inr this⟩
  · rw [List.getElem?_eq_none (by omega)] at ho; cases ho
end
end Go.Ly
namespace Go.Proofs.Ytnknopebjdgdjaa
open Go Go.Ly Go.RowKit
theorem wraps_u16 (n : Int) (h₀ : 0 ≤ n) (h₁ : n < 2 ^ 16) : IntKind.u16.wrap n = n := by rw [IntKind.wrap_u16]; omega
theorem wraps_u32 (n : Int) (h₀ : 0 ≤ n) (h₁ : n < 2 ^ 32) : IntKind.u32.wrap n = n := by rw [IntKind.wrap_u32]; omega
theorem u16_and255 (x : Int) (h₀ : 0 ≤ x) (h₁ : x < 65536) : bits .and .u16 x 255 = x % 256 := bits_mask .u16 16 (by decide) wraps_u16 8 (by decide) x h₀ h₁
theorem u16_and65535 (x : Int) (h₀ : 0 ≤ x) (h₁ : x < 65536) : bits .and .u16 x 65535 = x := by
  have := bits_mask .u16 16 (by decide) wraps_u16 16 (by decide) x h₀ h₁
  rw [show bits .and .u16 x 65535 = x % 2 ^ 16 from this]; omega
theorem u32_and1 (x : Int) (h₀ : 0 ≤ x) (h₁ : x < 4294967296) : bits .and .u32 x 1 = x % 2 := bits_mask .u32 32 (by decide) wraps_u32 1 (by decide) x h₀ h₁
theorem nat_and_pow (x i : Nat) : x &&& 2 ^ i = x / 2 ^ i % 2 * 2 ^ i := by
  apply Nat.eq_of_testBit_eq; intro j
  have hb : x.testBit i = decide (x / 2 ^ i % 2 = 1) := by rw [Nat.testBit_eq_decide_div_mod_eq]
  rw [Nat.testBit_and, Nat.testBit_two_pow]
  rcases Nat.mod_two_eq_zero_or_one (x / 2 ^ i) with h | h
  · rw [h, Nat.zero_mul, Nat.zero_testBit]
    by_cases hij : i = j
    · subst hij; rw [hb, h]; rfl
    · simp [hij]
  · rw [h, Nat.one_mul, Nat.testBit_two_pow]
    by_cases hij : i = j
    · subst hij; rw [hb, h]; rfl
    · simp [hij]
theorem u16_bit7 (x : Int) (h₀ : 0 ≤ x) (h₁ : x < 256) : (bits .and .u16 x 128 != 0) = decide (128 ≤ x) := by
  obtain ⟨n, rfl⟩ := Int.eq_ofNat_of_zero_le h₀
  have := u16_and_nat n 128 (by omega) (by omega)
  rw [show ((128 : Nat) : Int) = 128 from rfl] at this
  rw [this, show (128 : Nat) = 2 ^ 7 from rfl, nat_and_pow, Bool.eq_iff_iff]
  simp only [bne_iff_ne, ne_eq, decide_eq_true_eq]
  omega
theorem u16_bit15 (x : Int) (h₀ : 0 ≤ x) (h₁ : x < 65536) : (bits .and .u16 x 32768 != 0) = decide (32768 ≤ x) := by
  obtain ⟨n, rfl⟩ := Int.eq_ofNat_of_zero_le h₀
  have := u16_and_nat n 32768 (by omega) (by omega)
  rw [show ((32768 : Nat) : Int) = 32768 from rfl] at this
  rw [this, show (32768 : Nat) = 2 ^ 15 from rfl, nat_and_pow, Bool.eq_iff_iff]
  simp only [bne_iff_ne, ne_eq, decide_eq_true_eq]
  omega
def flags8 (n : Int) (x : Bool) : Value := .tuple ⟨[.int .u16 (n % 256), .agg ⟨[.bool (decide (128 ≤ n % 256)), .bool (n % 256 == 0), .bool x, .bool (par (n % 256)), .bool (n / 256 % 2 == 1)]⟩]⟩
def flags16 (n : Int) (x : Bool) : Value := .tuple ⟨[.int .u16 (n % 65536), .agg ⟨[.bool (decide (32768 ≤ n % 65536)), .bool (n % 65536 == 0), .bool x, .bool (par (n % 256)), .bool (n / 65536 % 2 == 1)]⟩]⟩
def in32 (n : Int) : Bool := decide (0 ≤ n) && decide (n < 4294967296)
def flagsC (l : List Value) : Option (Bool × Value) := match l with
  | [.int .u64 w, .int .u32 n, .bool x] => some ((w == 8 || w == 16) && in32 n, bif w == 8 then flags8 n x else flags16 n x)
  | _ => none
theorem gF80 : wctx.fn.get 80 = some Try.f80 := by kernel_rfl
theorem f8R (n : Int) (x : Bool) : (Ly.run wctx 600 [(2, true)] (Ly.start Try.f80 [.int .u64 8, .int .u32 n, .bool x] H0)).out? = some ([(inb (IntKind.u8.wrap (bits BinOp.and IntKind.u16 (IntKind.u16.wrap n) 255)), true)], .tuple ⟨[.int .u16 (bits BinOp.and IntKind.u16 (IntKind.u16.wrap n) 255), .agg ⟨[.bool (bits BinOp.and IntKind.u16 (bits BinOp.and IntKind.u16 (IntKind.u16.wrap n) 255) 128 != 0), .bool (bits BinOp.and IntKind.u16 (IntKind.u16.wrap n) 255 == 0), .bool x, .bool (par (IntKind.u8.wrap (bits BinOp.and IntKind.u16 (IntKind.u16.wrap n) 255))), .bool (bits BinOp.and IntKind.u32 (n.fdiv 256) 1 == 1)]⟩]⟩) := by kernel_rfl
theorem f16R (n : Int) (x : Bool) : (Ly.run wctx 600 [(2, true)] (Ly.start Try.f80 [.int .u64 16, .int .u32 n, .bool x] H0)).out? = some ([(inb (IntKind.u8.wrap (bits BinOp.and IntKind.u16 (IntKind.u16.wrap n) 65535)), true)], .tuple ⟨[.int .u16 (bits BinOp.and IntKind.u16 (IntKind.u16.wrap n) 65535), .agg ⟨[.bool (bits BinOp.and IntKind.u16 (bits BinOp.and IntKind.u16 (IntKind.u16.wrap n) 65535) 32768 != 0), .bool (bits BinOp.and IntKind.u16 (IntKind.u16.wrap n) 65535 == 0), .bool x, .bool (par (IntKind.u8.wrap (bits BinOp.and IntKind.u16 (IntKind.u16.wrap n) 65535))), .bool (bits BinOp.and IntKind.u32 (n.fdiv 65536) 1 == 1)]⟩]⟩) := by kernel_rfl
theorem fdivp (n m : Int) (hm : 0 ≤ m) : n.fdiv m = n / m := Int.fdiv_eq_ediv_of_nonneg n hm
theorem flags_ans : Answers Try.prog 80 flagsC := by
  intro args g v h hg
  unfold flagsC at h
  split at h
  · rename_i w n x
    simp only [Option.some.injEq, Prod.mk.injEq] at h
    obtain ⟨rfl, rfl⟩ := h
    simp only [Bool.and_eq_true, Bool.or_eq_true, beq_iff_eq, in32, decide_eq_true_eq] at hg
    obtain ⟨hw, h0, h1⟩ := hg
    have e1 : IntKind.u16.wrap n = n % 65536 := IntKind.wrap_u16 n
    rcases hw with rfl | rfl
    · have e2 : bits BinOp.and IntKind.u16 (IntKind.u16.wrap n) 255 = n % 256 := by rw [e1, u16_and255 _ (by omega) (by omega)]; omega
      have e3 : bits BinOp.and IntKind.u32 (n.fdiv 256) 1 = n / 256 % 2 := by rw [fdivp _ _ (by omega), u32_and1 _ (by omega) (by omega)]
      have e4 : IntKind.u8.wrap (n % 256) = n % 256 := by rw [IntKind.wrap_u8']; omega
      have hr := f8R n x
      rw [e2, e3, e4, u16_bit7 _ (by omega) (by omega)] at hr
      refine ⟨by simp [plain, plainL], by simp [plain, plainL, flags8], fun w => ?_⟩
      exact calls_trust wok 600 _ gF80 (by kernel_rfl) (by simp [plain, plainL]) (by simp [plain, plainL]) hr ⟨(inb_iff _).2 (by omega), trivial⟩ w
    · have e2 : bits BinOp.and IntKind.u16 (IntKind.u16.wrap n) 65535 = n % 65536 := by rw [e1, u16_and65535 _ (by omega) (by omega)]
      have e3 : bits BinOp.and IntKind.u32 (n.fdiv 65536) 1 = n / 65536 % 2 := by rw [fdivp _ _ (by omega), u32_and1 _ (by omega) (by omega)]
      have e4 : IntKind.u8.wrap (n % 65536) = n % 256 := by rw [IntKind.wrap_u8']; omega
      have hr := f16R n x
      rw [e2, e3, e4, u16_bit15 _ (by omega) (by omega)] at hr
      refine ⟨by simp [plain, plainL], by simp [plain, plainL, flags16], fun w => ?_⟩
      exact calls_trust wok 600 _ gF80 (by kernel_rfl) (by simp [plain, plainL]) (by simp [plain, plainL]) hr ⟨(inb_iff _).2 (by omega), trivial⟩ w
  · cases h
def yctx : Ctx := xctx.with 80 flagsC
theorem yok : yctx.Ok Try.prog := xok.with flags_ans
end Go.Proofs.Ytnknopebjdgdjaa
namespace Go.Proofs.Ytnknopebjdgdjaa
open Go Go.Ly Go.RowKit
def ctx1 : Ctx := yctx |>.withC 41 (conTree yctx 600 41) |>.withC 38 (conTree yctx 600 38) |>.withC 42 (conTree yctx 300 42) |>.withC 43 (conTree yctx 300 43) |>.withC 73 (conTree yctx 300 73) |>.withC 13 (conTree yctx 300 13) |>.withC 14 (conTree yctx 300 14) |>.withC 82 (conTree yctx 300 82) |>.withC 81 (conTree yctx 300 81) |>.withC 72 (conTree yctx 300 72) |>.withC 76 (conTree yctx 300 76)
theorem ctx1_ok : ctx1.Ok Try.prog := (((((((((((yok.byCon yok 600 41).byCon yok 600 38).byCon yok 300 42).byCon yok 300 43).byCon yok 300 73).byCon yok 300 13).byCon yok 300 14).byCon yok 300 82).byCon yok 300 81).byCon yok 300 72).byCon yok 300 76)
def ctx2 : Ctx := ctx1 |>.withC 45 (conTree ctx1 600 45) |>.withH 74 (hconTree ctx1 300 74) |>.withH 75 (hconTree ctx1 600 75)
theorem ctx2_ok : ctx2.Ok Try.prog := (((ctx1_ok.byCon ctx1_ok 600 45).byRun ctx1_ok 300 74).byRun ctx1_ok 600 75)
def ctx3 : Ctx := ctx2 |>.withC 52 (conTree ctx2 600 52) |>.withH 53 (hconTree ctx2 600 53) |>.withH 54 (hconTree ctx2 600 54) |>.withH 55 (hconTree ctx2 600 55) |>.withC 44 (conTree ctx2 600 44) |>.withH 47 (hconTree ctx2 600 47)
theorem ctx3_ok : ctx3.Ok Try.prog := ((((((ctx2_ok.byCon ctx2_ok 600 52).byRun ctx2_ok 600 53).byRun ctx2_ok 600 54).byRun ctx2_ok 600 55).byCon ctx2_ok 600 44).byRun ctx2_ok 600 47)
def ctx4 : Ctx := ctx3 |>.withH 46 (hconTree ctx3 600 46) |>.withH 27 (hconTree ctx3 300 27) |>.withH 28 (hconTree ctx3 300 28)
theorem ctx4_ok : ctx4.Ok Try.prog := (((ctx3_ok.byRun ctx3_ok 600 46).byRun ctx3_ok 300 27).byRun ctx3_ok 300 28)
def ctx5 : Ctx := ctx4 |>.withH 12 (hconTree ctx4 600 12)
theorem ctx5_ok : ctx5.Ok Try.prog := (ctx4_ok.byRun ctx4_ok 600 12)
def ctxL : Ctx := ctx5 |>.withH 30 (hconTree ctx5 2000 30)
theorem ctxL_ok : ctxL.Ok Try.prog := (ctx5_ok.byRun ctx5_ok 2000 30)
end Go.Proofs.Ytnknopebjdgdjaa
namespace Go.Proofs.Ytnknopebjdgdjaa
open Go Go.Ly Go.RowKit
def aliveC (l : List Value) : Option (Bool × Value) := match l with
  | [] => some (true, .bool true)
  | _ => none
theorem gH11 : ctxL.fn.get 11 = some Try.f11 := by kernel_rfl
theorem aliveR : (Ly.run ctxL 20000 [] (Ly.start Try.f11 [] H0)).out? = some ([], .bool true) := by kernel_rfl
theorem alive_ans : Answers Try.prog 11 aliveC := by
  intro args g v h hg
  unfold aliveC at h
  split at h
  · simp only [Option.some.injEq, Prod.mk.injEq] at h
    obtain ⟨rfl, rfl⟩ := h
    exact ⟨rfl, rfl, fun w => calls_trust ctxL_ok 20000 [] gH11 (by kernel_rfl) rfl rfl aliveR trivial w⟩
  · cases h
def ctxA : Ctx := ctxL.with 11 aliveC
theorem ctxA_ok : ctxA.Ok Try.prog := ctxL_ok.with alive_ans
end Go.Proofs.Ytnknopebjdgdjaa
namespace Go.Proofs.Ytnknopebjdgdjaa
open Go Go.Ly Go.RowKit
end Go.Proofs.Ytnknopebjdgdjaa
namespace Go.Ly
section
variable {P : Program}
theorem Rep.grow {ρ : Ren} {H : Heap} {w : World} {n : Nat} (h : H.next ≤ n) (hb : n < big) (hr : Rep ρ H w) : Rep ρ { H with next := n } w :=
  ⟨hb, fun i b e => ⟨Nat.lt_of_lt_of_le (hr.dom i b e).1 h, (hr.dom i b e).2⟩, hr.inj, fun i o e => Nat.lt_of_lt_of_le (hr.ltn i o e) h, hr.obj, hr.arg⟩
theorem Ends.grow {f : FuncId} {args : List Value} {os : List (Option LO)} {I : List Nat} {v : Value} {nx : Nat} {os' : List (Option LO)} (h : Ends P f args os I v nx os') {n : Nat} (hn : nx ≤ n) (hb : n < big) : Ends P f args os I v n os' := by
  intro ρ args' w ha hr
  refine (h ρ args' w ha hr).mono ?_
  rintro e w' ⟨ρ', u, u', H', rfl, ⟨rfl, h1, h2, h3⟩, h4, h5, h6, h7, h8⟩
  exact ⟨ρ', u, u', { H' with next := n }, rfl, ⟨rfl, rfl, h2, h3⟩, h4, h5, h6, h7.grow (by omega) hb, h8⟩
end
end Go.Ly
namespace Go.Proofs.Ytnknopebjdgdjaa
open Go Go.Ly Go.RowKit
structure Sv where
  r0 : Int
  r1 : Int
  r2 : Int
  r3 : Int
  r4 : Int
  r5 : Int
  r6 : Int
  r7 : Int
  fs : Bool
  fz : Bool
  fx : Bool
  fp : Bool
  fc : Bool
  ip : Int
  ie : Bool
def svV (s : Sv) (i c d : Value) : Value := .agg ⟨[.int .u16 s.r0, .int .u16 s.r1, .int .u16 s.r2, .int .u16 s.r3, .int .u16 s.r4, .int .u16 s.r5, .int .u16 s.r6, .int .u16 s.r7, .bool s.fs, .bool s.fz, .bool s.fx, .bool s.fp, .bool s.fc, .int .u16 s.ip, .bool s.ie, i, c, d]⟩
def nilS : Value := .slice none 0 0
def bytes2 (a b : Nat → Int) (n : Nat) : LO := .arg 2 (fun e j => match j with | 0 => .int .u16 (a e) | _ + 1 => .int .u8 (b e)) n
def memL (f : Nat → Int) : LO := .fn 1 (fun e _ => .int .u8 (f e)) 65536 5
def ptr (i : Nat) : Value := .pointer (some ⟨i, 0, none⟩)
def inw (a : Int) : Bool := decide (0 ≤ a) && decide (a ≤ 65535)
theorem inw_iff (a : Int) : inw a = true ↔ 0 ≤ a ∧ a ≤ 65535 := by unfold inw; rw [Bool.and_eq_true, decide_eq_true_eq, decide_eq_true_eq]
def B8 (n : Int) : Prop := 0 ≤ n ∧ n ≤ 255
def B16 (n : Int) : Prop := 0 ≤ n ∧ n ≤ 65535
def Mem (g : Nat → Int) : Prop := ∀ e, B8 (g e)
def upd (g : Nat → Int) (i : Nat) (v : Int) : Nat → Int := fun e => bif Nat.beq e i then v else g e
theorem upd_mem {g : Nat → Int} {i : Nat} {v : Int} (hg : Mem g) (hv : B8 v) : Mem (upd g i v) := by
  intro e; unfold upd; cases Nat.beq e i <;> simp [hv, hg e]
theorem mem1 (g : Nat → Int) (i : Nat) (v : Int) : LOeq (.fn 1 (updG (fun e _ => .int .u8 (g e)) i 0 [.int .u8 v]) 65536 5) (memL (upd g i v)) := by
  refine .inr ⟨1, _, _, _, _, rfl, rfl, fun e x _ hx => ?_⟩
  obtain rfl : x = 0 := by omega
  rfl
theorem mem2 (g : Nat → Int) (i j : Nat) (u v : Int) : LOeq (.fn 1 (updG (updG (fun e _ => .int .u8 (g e)) i 0 [.int .u8 u]) j 0 [.int .u8 v]) 65536 5) (memL (upd (upd g i u) j v)) := by
  refine .inr ⟨1, _, _, _, _, rfl, rfl, fun e x _ hx => ?_⟩
  obtain rfl : x = 0 := by omega
  rfl
def ix (n : Int) : Nat := 0 + n.toNat * 1
def rg (n : Int) : Bool := decide (0 ≤ n) && decide (n < 65536)
def bl (n : Nat) : Bool := Nat.blt n 65536
def M1 (g : Nat → Int) (i : Nat) (v : Int) : LO := .fn 1 (updG (fun e _ => .int .u8 (g e)) i 0 [.int .u8 v]) 65536 5
theorem rgt {n : Int} (h : B16 n) : rg n = true := by unfold B16 at h; unfold rg; simp; omega
theorem blt' {n : Int} (h : B16 n) : bl (ix n) = true := by unfold B16 at h; unfold bl ix; rw [Nat.blt_eq]; omega
end Go.Proofs.Ytnknopebjdgdjaa
namespace Go.Proofs.Ytnknopebjdgdjaa
open Go Go.Ly Go.RowKit
structure Mc where
  r0 : Int
  r1 : Int
  r2 : Int
  r3 : Int
  r4 : Int
  r5 : Int
  r6 : Int
  r7 : Int
  fs : Bool
  fz : Bool
  fx : Bool
  fp : Bool
  fc : Bool
  ip : Int
  ie : Bool
  halt : Bool
def cellsPb (b d : Nat) (m : Mc) (i o : Value) : List Value := [.int .u16 m.r0, .int .u16 m.r1, .int .u16 m.r2, .int .u16 m.r3, .int .u16 m.r4, .int .u16 m.r5, .int .u16 m.r6, .int .u16 m.r7, .bool m.fs, .bool m.fz, .bool m.fx, .bool m.fp, .bool m.fc, .int .u16 m.ip, .bool m.ie, .bool m.halt, i, o, sl b 65536, sl d 65536]
theorem noP (b d : Nat) (m : Mc) (i o : Value) : noTokL (cellsPb b d m i o) = (noTok i && noTok o) := by simp [cellsPb, noTokL, noTok, sl]
def hP (m : Mc) (g h : Nat → Int) : List (Option LO) := [some (.cells (cellsPb 1 2 m (tokV 16) (tokV 17)) 54), some (memL g), some (memL h)]
structure Pm (H : Heap) (p b d : Nat) (m : Mc) (g h : Nat → Int) (iv ov : Value) : Prop where
  cells : H.get p = some (.cells (cellsPb b d m iv ov) 54)
  code : H.get b = some (memL g)
  data : H.get d = some (memL h)
  ti : noTok iv = true
  to : noTok ov = true
  nd : [p, b, d].Nodup
structure Nx (H H' : Heap) (O : List Nat) : Prop where
  lock : H'.lock = 0
  le : H.next ≤ H'.next
  ge : H'.next ≤ H.next + 64
  clean : Ly.Clean H'
  old : ∀ i, i < H.next → i ∉ O → H'.get i = H.get i
theorem P_tok {H : Heap} {p b d : Nat} {m m' : Mc} {g g' h h' : Nat → Int} {iv ov : Value} {k : Int} (hp : Pm H p b d m g h iv ov) (hl : H.lock = 0) (hc : Ly.Clean H) (hb : H.next + 64 < big)
    (he : Ly.Ends Try.prog 17 [ptr 0] (hP m g h) [0, 1, 2] (.int .i64 k) 64 (hP m' g' h')) :
    LCalls Try.prog 17 [ptr p] H (fun u H' => u = .int .i64 k ∧ Nx H H' [p, b, d] ∧ Pm H' p b d m' g' h' iv ov) := by
  obtain ⟨h1, h2, h3, hn1, hn2, hnd⟩ := hp
  refine LCalls.ltn fun hlt hsm => ?_
  have hnp := hlt _ _ h1
  have hpb : p ≠ b := by intro e; simp [e] at hnd
  have hpd : p ≠ d := by intro e; simp [e] at hnd
  have hget := fun i => Heap.get_put (H := H) (o := .cells (tokAt [16, 17] 0 (cellsPb b d m iv ov)) 54) (Nat.lt_trans hnp hsm) i
  have hs : Sit (H.put p (.cells (tokAt [16, 17] 0 (cellsPb b d m iv ov)) 54)) (hP m g h) [p, b, d] := by
    refine ⟨hl, rfl, hnd, fun i o hi => ?_⟩
    rcases i with _ | _ | _ | i
    · simp only [hP, List.getElem?_cons_zero, Option.some.injEq] at hi; subst hi
      show (H.put p _).get p = _
      rw [hget, if_pos rfl]; rfl
    · simp only [hP, List.getElem?_cons_succ, List.getElem?_cons_zero, Option.some.injEq] at hi; subst hi
      show (H.put p _).get b = _
      rw [hget, if_neg hpb.symm, h2]; rfl
    · simp only [hP, List.getElem?_cons_succ, List.getElem?_cons_zero, Option.some.injEq] at hi; subst hi
      show (H.put p _).get d = _
      rw [hget, if_neg hpd.symm, h3]; rfl
    · simp [hP] at hi
  have key : LCalls Try.prog 17 [ptr p] H _ := he.madeTok (c := cellsPb b d m iv ov) (t := 54) (ps := [16, 17]) (b0 := p) (L := [p, b, d]) (by rfl) hl h1 (by simp) hs hb hc (by rfl) (by rfl) (by rfl) (by
    intro o ho x hx
    simp only [hP, List.mem_cons, List.not_mem_nil, or_false] at ho
    rcases ho with rfl | rfl | rfl <;> (simp only [Option.some.injEq] at hx; subst hx)
    · refine ⟨rfl, ?_⟩
      show noTokL (cellsPb b d m' iv ov) = true
      rw [noP, hn1, hn2]; rfl
    · exact ⟨rfl, rfl⟩
    · exact ⟨rfl, rfl⟩)
  refine key.mono ?_
  rintro u H' ⟨rfl, hM⟩
  exact ⟨rfl, ⟨hM.lock, by rw [hM.next]; omega, by rw [hM.next]; omega, hM.clean, fun i hi hO => hM.old i hi hO⟩, hM.now 0 0 _ rfl rfl, hM.now 1 1 _ rfl rfl, hM.now 2 2 _ rfl rfl, hn1, hn2, hnd⟩
end Go.Proofs.Ytnknopebjdgdjaa
namespace Go.Proofs.Ytnknopebjdgdjaa
open Go Go.Ly Go.RowKit
def haltAt (C : Ctx) (f : Nat) : Ctx := C.withH f (fun _ _ => .no)
theorem haltAt_ok {C : Ctx} (h : C.Ok Try.prog) (f : Nat) : (haltAt C f).Ok Try.prog := h.withH (fun _ _ => trivial)
def ctxSh : Ctx := haltAt ctx4 31
theorem ctxSh_ok : ctxSh.Ok Try.prog := haltAt_ok ctx4_ok 31
end Go.Proofs.Ytnknopebjdgdjaa
namespace Go.Proofs.Ytnknopebjdgdjaa
open Go Go.Ly Go.RowKit
def m0 : Mc := ⟨0, 0, 0, 0, 0, 0, 0, 0, false, false, false, false, false, 0, false, false⟩
def dS : St := Ly.start Try.f17 [] H0
def pathS : Path := [(1, false), (1, true), (0, true), (2, true), (0, true), (2, true), (0, true), (2, true), (0, true)]
def kS : List KI := ((Ly.run ctxSh 600 [] (Ly.start Try.f17 [ptr 0] (mkH (hP m0 (fun _ => 0) (fun _ => 0))))).st dS).top.k
def at4 (ip c : Int) : Nat := 0 + (IntKind.u16.wrap (ip + IntKind.u16.wrap c)).toNat * 1
def tS (m : Mc) : List (Bool × Bool) := [(m.halt, false), (rg (IntKind.u16.wrap (m.ip + IntKind.u16.wrap 0)), true), (Nat.blt (at4 m.ip 0) 65536, true), (rg (IntKind.u16.wrap (m.ip + IntKind.u16.wrap 1)), true), (Nat.blt (at4 m.ip 1) 65536, true), (rg (IntKind.u16.wrap (m.ip + IntKind.u16.wrap 2)), true), (Nat.blt (at4 m.ip 2) 65536, true), (rg (IntKind.u16.wrap (m.ip + IntKind.u16.wrap 3)), true), (Nat.blt (at4 m.ip 3) 65536, true)]
def vS : List Value := slots 59 [(0, ptr 0), (38, .slice (some ⟨3, 0, none⟩) 4 4)]
def sS (m : Mc) (g h : Nat → Int) (b0 b1 b2 b3 : Int) : St := atSt Try.f17 kS none 3 vS ((mkH (hP m g h)).new (.cells [.int .u8 b0, .int .u8 b1, .int .u8 b2, .int .u8 b3] 79))
theorem juncS (m : Mc) (g h : Nat → Int) : haltF [0, 38] dS (Ly.run ctxSh 600 pathS (Ly.start Try.f17 [ptr 0] (mkH (hP m g h)))) = (true, tS m, true, (Try.f17, kS, none, 3), vS, (mkH (hP m g h)).new (.cells [.int .u8 (g (at4 m.ip 0)), .int .u8 (g (at4 m.ip 1)), .int .u8 (g (at4 m.ip 2)), .int .u8 (g (at4 m.ip 3))] 79)) := by kernel_rfl
theorem wr16 (n : Int) : B16 (IntKind.u16.wrap n) := by unfold B16; rw [IntKind.wrap_u16]; omega
theorem trS {m : Mc} (hh : m.halt = false) : trusted (tS m) := by
  have e : ∀ c, Nat.blt (at4 m.ip c) 65536 = true := fun c => blt' (wr16 _)
  simp only [tS, trusted, hh, rgt (wr16 _), e, and_self]
theorem gS17 : ctx4.fn.get 17 = some Try.f17 := by kernel_rfl
end Go.Proofs.Ytnknopebjdgdjaa
namespace Go.Proofs.Ytnknopebjdgdjaa
open Go Go.Ly Go.RowKit
def memF (a b : Nat → Int) : Nat → Nat → Int
  | 0 => fun _ => 0
  | i + 1 => upd (memF a b i) (ix (a i)) (b i)
theorem memF_mem {a b : Nat → Int} : ∀ (n : Nat), (∀ e, e < n → B8 (b e)) → Mem (memF a b n)
  | 0, _ => fun e => by simp [memF, B8]
  | n + 1, h => upd_mem (memF_mem n (fun e he => h e (by omega))) (h n (by omega))
def zeroL : LO := .fn 1 (fun x q => ((cellsL (Value.int .u8 0))[q]?).getD undef) 65536 5
theorem zero_eq : LOeq zeroL (memL (fun _ => 0)) := by
  refine .inr ⟨1, _, _, _, _, rfl, rfl, fun e x _ hx => ?_⟩
  obtain rfl : x = 0 := by omega
  rfl
def memD : St := Ly.start Try.f30 [] H0
def memK : List KI := ((Ly.run env.bare 16 [] (Ly.start Try.f30 [sls 0 0] (mkH [some (bytes2 (fun _ => 0) (fun _ => 0) 0)]))).st memD).top.k
def memV (n : Nat) (i : Int) : List Value := slots 25 [(0, sls 0 n), (3, sl 1 65536), (4, .int .i64 i)]
theorem gM30 : env.bare.fn.get 30 = some Try.f30 := by kernel_rfl
theorem mem_0 (n : Nat) (a b : Nat → Int) : headAt [0, 3, 4] [0, 1] memD (Ly.run env.bare 16 [] (Ly.start Try.f30 [sls 0 n] (mkH [some (bytes2 a b n)]))) = (true, [], true, (Try.f30, memK, none, 1), memV n 0, [some (bytes2 a b n), some zeroL]) := by kernel_rfl
theorem mem_I (n : Nat) (a b g : Nat → Int) (i : Int) : headAt [0, 3, 4] [0, 1] memD (Ly.run env.bare 35 [(0, true), (0, true), (0, true), (0, true), (0, true), (0, true), (0, true)] (mkSt Try.f30 memK none 1 (memV n i) [some (bytes2 a b n), some (memL g)])) = (true, [(decide (i < n), true), (decide (0 ≤ i) && decide (i < n), true), (Nat.blt (0 + i.toNat) n, true), (decide (0 ≤ i) && decide (i < n), true), (Nat.blt (0 + i.toNat) n, true), (rg (a (0 + i.toNat)), true), (bl (ix (a (0 + i.toNat))), true)], true, (Try.f30, memK, none, 1), memV n (IntKind.i64.wrap (i + 1)), [some (bytes2 a b n), some (M1 g (ix (a (0 + i.toNat))) (b (0 + i.toNat)))]) := by kernel_rfl
theorem mem_T (n : Nat) (a b g : Nat → Int) (i : Int) : (Ly.run env.bare 200 [(0, false)] (mkSt Try.f30 memK none 1 (memV n i) [some (bytes2 a b n), some (memL g)])).end? = some ([(decide (i < n), false)], sl 1 65536, mkH [some (bytes2 a b n), some (memL g)]) := by kernel_rfl
theorem mem_nil : (Ly.run env.bare 300 [] (Ly.start Try.f30 [.slice none 0 0] (mkH []))).end? = some ([], sl 0 65536, mkH [some zeroL]) := by kernel_rfl
theorem mem_P (n : Nat) (a b g : Nat → Int) (i : Nat) (v : Int) : ∀ o ∈ [some (bytes2 a b n), some (M1 g i v)], ∀ x, o = some x → plainO x := by
  intro o ho x hx
  simp only [List.mem_cons, List.not_mem_nil, or_false] at ho
  rcases ho with rfl | rfl <;> (simp only [Option.some.injEq] at hx; subst hx)
  · intro e j; cases j <;> simp [noBlk, blks]
  · intro e j
    simp only [updG]
    cases h : (Nat.ble 0 j && Nat.blt j (0 + [Value.int .u8 v].length)) with
    | false => simp [noBlk, blks]
    | true =>
      simp only [cond_true]; rw [vif_eq]
      cases Nat.beq e i with
      | false => simp [noBlk, blks]
      | true =>
        have : j = 0 := by simp [Nat.blt_eq] at h; omega
        subst this; simp [noBlk, blks]
theorem mem_Pz (n : Nat) (a b : Nat → Int) : ∀ o ∈ [some (bytes2 a b n), some zeroL], ∀ x, o = some x → plainO x := by
  intro o ho x hx
  simp only [List.mem_cons, List.not_mem_nil, or_false] at ho
  rcases ho with rfl | rfl <;> (simp only [Option.some.injEq] at hx; subst hx)
  · intro e j; cases j <;> simp [noBlk, blks]
  · intro e j; cases j <;> simp [noBlk, blks, blksL, cellsL, undef]
theorem mem_loop (n : Nat) (a b : Nat → Int) (hn : n ≤ 9223372036854775806) (ha : ∀ e, e < n → B16 (a e)) : ∀ (d : Nat) (i : Nat), i ≤ n → n - i = d →
    MWp Try.prog (mkSt Try.f30 memK none 1 (memV n i) [some (bytes2 a b n), some (memL (memF a b i))]) (fun v K => v = sl 1 65536 ∧ K.get 1 = some (memL (memF a b n)) ∧ K.lock = 0)
  | 0, i, h1, hd => by
    have hi : i = n := by omega
    subst hi
    refine MWp.done (Env.bare_ok envOk) 200 _ (mem_T i a b _ i) (by simp [trusted]) ⟨rfl, ?_, rfl⟩
    rw [mkH_get _ (by simp [big])]; rfl
  | d + 1, i, h1, hd => by
    have hi : i < n := by omega
    have e0 : 0 + (i : Int).toNat = i := by omega
    have hlt : Nat.blt i n = true := by rw [Nat.blt_eq]; omega
    have hb := ha i hi
    refine MWp.head (Env.bare_ok envOk) _ _ _ _ (mem_I n a b _ i) (by rw [e0]; simp [trusted, hlt, hi, rgt hb, blt' hb]) (mem_P n a b _ _ _) ?_
    have hw : IntKind.i64.wrap ((i : Int) + 1) = ((i + 1 : Nat) : Int) := by rw [IntKind.wrap_i64]; omega
    rw [hw, e0]
    refine MWp.weak (K := mkH [some (bytes2 a b n), some (memL (memF a b (i + 1)))]) (weak_mkH ⟨.inl rfl, mem1 _ _ _, trivial⟩ (by simp [big])) ?_
    exact mem_loop n a b hn ha d (i + 1) (by omega) (by omega)
theorem mem_calls (n : Nat) (a b : Nat → Int) (hn : n ≤ 9223372036854775806) (ha : ∀ e, e < n → B16 (a e)) :
    LCalls Try.prog 30 [sls 0 n] (mkH [some (bytes2 a b n)]) (fun u K => u = sl 1 65536 ∧ K.get 1 = some (memL (memF a b n)) ∧ K.lock = 0) := by
  refine LCalls_of (Env.bare_ok envOk) gM30 (by kernel_rfl) ?_
  refine MWp.head (Env.bare_ok envOk) _ _ _ _ (mem_0 n a b) trivial (mem_Pz n a b) ?_
  refine MWp.weak (K := mkH [some (bytes2 a b n), some (memL (memF a b 0))]) (weak_mkH ⟨.inl rfl, zero_eq, trivial⟩ (by simp [big])) ?_
  exact mem_loop n a b hn ha n 0 (by omega) (by omega)
def atOf (G : Nat → Nat → Value) : Nat → Int := fun e => intV (G e 0)
def byOf (G : Nat → Nat → Value) : Nat → Int := fun e => intV (G e 1)
def okM (n : Nat) (G : Nat → Nat → Value) : Bool := Nat.ble n 1000 && (List.range n).all fun e => isK .u16 (G e 0) && (isK .u8 (G e 1) && inw (intV (G e 0)))
def memMk (n : Nat) (G : Nat → Nat → Value) : Bool × (Nat → Nat → Value) × Nat := (okM n G, fun e _ => .int .u8 (memF (atOf G) (byOf G) n e), 65536)
def memC : Heap → List Value → ER := rowNew 2 memMk 1 5
theorem memC_good (H : Heap) (args : List Value) : HGood Try.prog 30 args H (memC H args) := by
  refine rowNew_good (by decide) (fun n G h => ⟨1, ?_⟩) (fun G h => ⟨0, ?_⟩) H args
  · simp only [memMk, okM, Bool.and_eq_true, List.all_eq_true, List.mem_range] at h
    obtain ⟨h1, h2⟩ := h
    have h1' := Nat.le_of_ble_eq_true h1
    refine LCalls.argEq (g' := fun e j => match j with | 0 => .int .u16 (atOf G e) | _ + 1 => .int .u8 (byOf G e)) (fun e j he hj => ?_) (mem_calls n (atOf G) (byOf G) (by omega) (fun e he => (inw_iff _).1 (h2 e he).2.2))
    obtain ⟨k1, k2, _⟩ := h2 e he
    have : j = 0 ∨ j = 1 := by omega
    rcases this with rfl | rfl
    · exact isK_eq k1
    · exact isK_eq k2
  · refine LCalls_of (Env.bare_ok envOk) gM30 (by kernel_rfl) ?_
    refine MWp.weakQ (MWp.done (Q := fun u K => u = sl 0 65536 ∧ K = mkH [some zeroL]) (Env.bare_ok envOk) 300 _ mem_nil trivial ⟨rfl, rfl⟩) ?_
    rintro v K ⟨rfl, rfl⟩
    refine ⟨mkH [some (memL (fun _ => 0))], ⟨rfl, ?_, rfl⟩, weak_mkH ⟨zero_eq, trivial⟩ (by simp [big])⟩
    rw [mkH_get _ (by simp [big])]; rfl
end Go.Proofs.Ytnknopebjdgdjaa
namespace Go.Proofs.Ytnknopebjdgdjaa
open Go Go.Ly Go.RowKit
def Sv.Ok (s : Sv) : Prop := (B16 s.r0 ∧ B16 s.r1 ∧ B16 s.r2 ∧ B16 s.r3 ∧ B16 s.r4 ∧ B16 s.r5 ∧ B16 s.r6 ∧ B16 s.r7) ∧ B16 s.ip
theorem ck_bytes2 {w : World} {v : Value} (h : CkOk w (.slice [.int .u16, .int .u8]) v) : v = .slice none 0 0 ∨ ∃ (n : Nat) (a b : Nat → Int) (p : Option Plc),
    RealRows w 2 (fun e j => match j with | 0 => .int .u16 (a e) | _ + 1 => .int .u8 (b e)) n v p ∧ (∀ e, e < n → B16 (a e) ∧ B8 (b e)) ∧ n ≤ maxLen := by
  rcases ck_rows rfl (by decide) h with rfl | ⟨n, F, p, hr, hF, hn⟩
  · exact .inl rfl
  · right
    have key : ∀ e, e < n → ∃ x y, F e = [.int .u16 x, .int .u8 y] ∧ (Lit.int .u16 x).wf = true ∧ (Lit.int .u8 y).wf = true := by
      intro e he
      have := hF e he
      simp only [CksOk, CkOk] at this
      obtain ⟨v1, r1, e1, ⟨x, rfl, hx⟩, v2, r2, rfl, ⟨y, rfl, hy⟩, rfl⟩ := this
      exact ⟨x, y, e1, hx, hy⟩
    refine ⟨n, fun e => intV ((F e)[0]?.getD undef), fun e => intV ((F e)[1]?.getD undef), p, hr.congr (fun e j he hj => ?_), fun e he => ?_, hn⟩
    · obtain ⟨x, y, e1, _, _⟩ := key e he
      have : j = 0 ∨ j = 1 := by simp at hj; omega
      rcases this with rfl | rfl <;> simp [e1, intV]
    · obtain ⟨x, y, e1, hx, hy⟩ := key e he
      simp only [e1, List.getElem?_cons_zero, List.getElem?_cons_succ, Option.getD_some, intV]
      exact ⟨bounds_u16 hx, bounds_u8 hy⟩
theorem ck_in {w : World} {v : Value} (h : CkOk w (.slice [.int .u8]) v) : v = .slice none 0 0 ∨ ∃ (n : Nat) (f : Nat → Int) (p : Option Plc),
    RealRows w 1 (fun e _ => .int .u8 (f e)) n v p ∧ (∀ e, e < n → B8 (f e)) ∧ n ≤ maxLen := by
  rcases ck_rows rfl (by decide) h with rfl | ⟨n, F, p, hr, hF, hn⟩
  · exact .inl rfl
  · right
    have key : ∀ e, e < n → ∃ y, F e = [.int .u8 y] ∧ (Lit.int .u8 y).wf = true := by
      intro e he
      have := hF e he
      simp only [CksOk, CkOk] at this
      obtain ⟨v2, r2, e1, ⟨y, rfl, hy⟩, rfl⟩ := this
      exact ⟨y, e1, hy⟩
    refine ⟨n, fun e => intV ((F e)[0]?.getD undef), p, hr.congr (fun e j he hj => ?_), fun e he => ?_, hn⟩
    · obtain ⟨y, e1, _⟩ := key e he
      have : j = 0 := by simp at hj; omega
      subst this
      simp [e1, intV]
    · obtain ⟨y, e1, hy⟩ := key e he
      simp only [e1, List.getElem?_cons_zero, Option.getD_some, intV]
      exact bounds_u8 hy
def InRow (w : World) (i : Nat) (f : Nat → Int) (n : Nat) (loc v : Value) (p : Option Plc) : Prop := (loc = .slice none 0 0 ∧ v = .slice none 0 0 ∧ n = 0 ∧ p = none) ∨ (loc = sl i n ∧ RealRows w 1 (fun e _ => .int .u8 (f e)) n v p)
theorem sv_open {W : World} {v : Value} (h : ∃ cs, v = .agg ⟨cs⟩ ∧ CksOk W [.int .u16, .int .u16, .int .u16, .int .u16, .int .u16, .int .u16, .int .u16, .int .u16, .bool, .bool, .bool, .bool, .bool, .int .u16, .bool, .slice [.int .u8], .slice [.int .u16, .int .u8], .slice [.int .u16, .int .u8]] cs) :
    ∃ (s : Sv) (iv cv dv : Value), s.Ok ∧ v = svV s iv cv dv ∧ CkOk W (.slice [.int .u8]) iv ∧ CkOk W (.slice [.int .u16, .int .u8]) cv ∧ CkOk W (.slice [.int .u16, .int .u8]) dv := by
  obtain ⟨cs, rfl, h⟩ := h
  simp only [CksOk] at h
  obtain ⟨v0, _, rfl, c0, v1, _, rfl, c1, v2, _, rfl, c2, v3, _, rfl, c3, v4, _, rfl, c4, v5, _, rfl, c5, v6, _, rfl, c6, v7, _, rfl, c7, v8, _, rfl, c8, v9, _, rfl, c9, v10, _, rfl, c10, v11, _, rfl, c11, v12, _, rfl, c12, v13, _, rfl, c13, v14, _, rfl, c14, v15, _, rfl, c15, v16, _, rfl, c16, v17, _, rfl, c17, rfl⟩ := h
  simp only [CkOk] at c0 c1 c2 c3 c4 c5 c6 c7 c8 c9 c10 c11 c12 c13 c14
  obtain ⟨n0, rfl, w0⟩ := c0
  obtain ⟨n1, rfl, w1⟩ := c1
  obtain ⟨n2, rfl, w2⟩ := c2
  obtain ⟨n3, rfl, w3⟩ := c3
  obtain ⟨n4, rfl, w4⟩ := c4
  obtain ⟨n5, rfl, w5⟩ := c5
  obtain ⟨n6, rfl, w6⟩ := c6
  obtain ⟨n7, rfl, w7⟩ := c7
  obtain ⟨b8, rfl⟩ := c8
  obtain ⟨b9, rfl⟩ := c9
  obtain ⟨b10, rfl⟩ := c10
  obtain ⟨b11, rfl⟩ := c11
  obtain ⟨b12, rfl⟩ := c12
  obtain ⟨n13, rfl, w13⟩ := c13
  obtain ⟨b14, rfl⟩ := c14
  exact ⟨⟨n0, n1, n2, n3, n4, n5, n6, n7, b8, b9, b10, b11, b12, n13, b14⟩, v15, v16, v17,
    ⟨⟨bounds_u16 w0, bounds_u16 w1, bounds_u16 w2, bounds_u16 w3, bounds_u16 w4, bounds_u16 w5, bounds_u16 w6, bounds_u16 w7⟩, bounds_u16 w13⟩, rfl, c15, c16, c17⟩
theorem in_cases {w : World} {v : Value} (h : CkOk w (.slice [.int .u8]) v) : ∃ (f : Nat → Int) (n : Nat) (loc : Value) (p : Option Plc), InRow w 0 f n loc v p ∧ (∀ e, e < n → B8 (f e)) ∧ n ≤ maxLen := by
  rcases ck_in h with rfl | ⟨n, f, p, hr, hf, hn⟩
  · exact ⟨fun _ => 0, 0, .slice none 0 0, none, .inl ⟨rfl, rfl, rfl, rfl⟩, fun e he => by omega, by simp [maxLen]⟩
  · exact ⟨f, n, sl 0 n, p, .inr ⟨rfl, hr⟩, hf, hn⟩
end Go.Proofs.Ytnknopebjdgdjaa
namespace Go.Ly
open Go.RowKit
def cleanB (H : Heap) : Nat → Bool
  | 0 => true
  | n + 1 => (match H.get n with | some o => noTokO o | none => true) && cleanB H n
theorem cleanB_spec {H : Heap} : ∀ (n : Nat), cleanB H n = true → ∀ i, i < n → ∀ o, H.get i = some o → noTokO o = true
  | 0, _, i, hi, _, _ => by omega
  | n + 1, h, i, hi, o, ho => by
    simp only [cleanB, Bool.and_eq_true] at h
    rcases Nat.lt_or_ge i n with h1 | h1
    · exact cleanB_spec n h.2 i h1 o ho
    · have : i = n := by omega
      subst this
      have h2 := h.1
      rw [ho] at h2; exact h2
def haltG (keep bs : List Nat) (nx : Nat) (d : St) (r : RO) : Bool × List (Bool × Bool) × Bool × (Func × List KI × Option Tmp × Nat) × List Value × (Bool × Bool × Bool) × List (Option LO) := (r.isHalt, r.trust, (r.st d).rest.isEmpty && Nat.blt (r.st d).top.fn.ntmps 1000000, ((r.st d).top.fn, (r.st d).top.k, (r.st d).top.dst, (r.st d).base), keepV keep (r.st d).top.fn.ntmps (r.st d).top.t, (Nat.beq (r.st d).H.next nx, Nat.beq (r.st d).H.lock 0, cleanB (r.st d).H nx), bs.map (r.st d).H.get)
section
variable {P : Program} {C : Ctx} {Q : Value → Heap → Prop}
theorem MWp.haltG (hC : C.Ok P) {S d : St} {t : List (Bool × Bool)} {fn : Func} {k : List KI} {dst : Option Tmp} {base nx : Nat} {vals : List Value} {os : List (Option LO)} (keep bs : List Nat) (n : Nat) (p : Path)
    (h : Go.Ly.haltG keep bs nx d (run C n p S) = (true, t, true, (fn, k, dst, base), vals, (true, true, true), os)) (ht : trusted t)
    (hs : ∀ H, H.next = nx → H.lock = 0 → Clean H → bs.map H.get = os → MWp P (atSt fn k dst base vals H) Q) : MWp P S Q := by
  simp only [Go.Ly.haltG, Prod.mk.injEq] at h
  obtain ⟨h1, h2, h3, ⟨h4, h5, h6, h7⟩, h8, ⟨h9, h10, h11⟩, h12⟩ := h
  have hn := Nat.eq_of_beq_eq_true h9
  refine MWp.halted (H := ((run C n p S).st d).H) (fn := fn) (k := k) (dst := dst) (base := base) (vals := vals) hC keep n p (d := d) ?_ ht ?_
  · simp only [haltF, Prod.mk.injEq]
    exact ⟨h1, h2, h3, ⟨h4, h5, h6, h7⟩, h8, trivial⟩
  · refine MWp.ltn fun hlt hsm => ?_
    exact hs _ hn (Nat.eq_of_beq_eq_true h10) (fun i o ho => cleanB_spec nx h11 i (by rw [← hn]; exact hlt i o ho) o ho) h12
end
def haltH (keep bs : List Nat) (nx : Nat) (d : St) (r : RO) : Bool × List (Bool × Bool) × Bool × (Func × List KI × Option Tmp × Nat) × List Value × (Bool × Bool × Bool) × List (Option LO) := forceTr forceO (r.st d).top.t fun t => forceTr forceLO (r.st d).H.m fun hm => (r.isHalt, r.trust, (r.st d).rest.isEmpty && Nat.blt (r.st d).top.fn.ntmps 1000000, ((r.st d).top.fn, (r.st d).top.k, (r.st d).top.dst, (r.st d).base), keepV keep (r.st d).top.fn.ntmps t, (Nat.beq (r.st d).H.next nx, Nat.beq (r.st d).H.lock 0, cleanB { m := hm, next := (r.st d).H.next, lock := (r.st d).H.lock } nx), bs.map (Heap.get { m := hm, next := (r.st d).H.next, lock := (r.st d).H.lock }))
theorem haltH_eq (keep bs : List Nat) (nx : Nat) (d : St) (r : RO) : haltH keep bs nx d r = Go.Ly.haltG keep bs nx d r := by
  unfold haltH Go.Ly.haltG
  rw [forceTr_eq forceO_eq, forceTr_eq forceLO_eq]
section
variable {P : Program} {C : Ctx} {Q : Value → Heap → Prop}
theorem MWp.haltH (hC : C.Ok P) {S d : St} {t : List (Bool × Bool)} {fn : Func} {k : List KI} {dst : Option Tmp} {base nx : Nat} {vals : List Value} {os : List (Option LO)} (keep bs : List Nat) (n : Nat) (p : Path)
    (h : Go.Ly.haltH keep bs nx d (run C n p S) = (true, t, true, (fn, k, dst, base), vals, (true, true, true), os)) (ht : trusted t)
    (hs : ∀ H, H.next = nx → H.lock = 0 → Clean H → bs.map H.get = os → MWp P (atSt fn k dst base vals H) Q) : MWp P S Q :=
  MWp.haltG hC keep bs n p (by rw [← haltH_eq]; exact h) ht hs
end
def opVal (E : Env) (S : St) : Option Value :=
  match S.top.k with
  | .ops all (o :: l) :: k =>
    bif guardB all S.top.t S.top.fn.ntmps o && dstOk S.top.fn.ntmps o.dst then
      (match evOp E S.H S.top.t o with
      | .val v => some v
      | _ => none)
    else none
  | _ => none
theorem MWp.val {P : Program} {E : Env} {Q : Value → Heap → Prop} (hE : E.Ok P) {S : St} {v : Value} (h : opVal E S = some v) (hs : MWp P (behind S v S.H) Q) : MWp P S Q := by
  unfold opVal at h
  split at h
  · rename_i all o l k hk
    cases hc : (guardB all S.top.t S.top.fn.ntmps o && dstOk S.top.fn.ntmps o.dst) with
    | false => rw [hc] at h; cases h
    | true =>
      rw [hc] at h; simp only [cond_true] at h
      simp only [Bool.and_eq_true] at hc
      intro ρ w g gs R hr hf hfs hR
      unfold stateWp
      rw [hf.k, hk]
      show wpList P all _ (o :: l) g.a w
      unfold wpList
      rw [guardB_wanted P hf hc.1, if_pos rfl]
      left
      have hgood := evOp_good hE hr hf.t o
      cases he : evOp E S.H S.top.t o with
      | val u =>
        rw [he] at h hgood
        simp only [Option.some.injEq] at h
        subst h
        obtain ⟨v', hv, hrun⟩ := hgood
        unfold Oper.wp; rw [hrun]
        simp only [Oper.upon]
        refine putFr_sound (S := S) (Q := Q) (v := u) (H' := S.H) (k := .ops all l :: k) (dst := o.dst) ?_ hf hfs (Ren.le_refl ρ) (Fresh.refl ρ w) hr (Keep.refl ρ w) hv hR
        unfold putFr
        rw [hc.2]
        unfold behind at hs
        rw [hk] at hs
        exact hs
      | _ => rw [he] at h; cases h
  · cases h
end Go.Ly
namespace Go.Proofs.Ytnknopebjdgdjaa
open Go Go.Ly Go.RowKit
def Gok (n : Nat) (G : Nat → Nat → Value) : Prop := ∀ e, e < n → ∃ x y, G e 0 = .int .u16 x ∧ G e 1 = .int .u8 y ∧ B16 x ∧ B8 y
theorem Gok.ok {n : Nat} {G : Nat → Nat → Value} (h : Gok n G) (hn : n ≤ 1000) : okM n G = true := by
  unfold okM
  rw [Bool.and_eq_true, Nat.ble_eq, List.all_eq_true]
  refine ⟨hn, fun e he => ?_⟩
  obtain ⟨x, y, h1, h2, h3, h4⟩ := h e (List.mem_range.1 he)
  rw [h1, h2]
  simp [isK, kbeq, intV, (inw_iff x).2 h3]
theorem Gok.mem {n : Nat} {G : Nat → Nat → Value} (h : Gok n G) : Mem (memF (atOf G) (byOf G) n) := by
  refine memF_mem n fun e he => ?_
  obtain ⟨x, y, h1, h2, h3, h4⟩ := h e he
  show B8 (intV (G e 1))
  rw [h2]; exact h4
theorem Gok.shift {n : Nat} {G : Nat → Nat → Value} (h : Gok n G) : Gok n (fun i j => G (0 + i) j) := fun e he => by
  simp only [Nat.zero_add]; exact h e he
theorem Gok.join {m n : Nat} {g h : Nat → Nat → Value} (hg : Gok m g) (hh : Gok n h) : Gok (m + n) (joinG m g h) := fun e he => by
  simp only [joinG, vif_eq]
  cases hb : Nat.blt e m with
  | true => exact hg e (by simpa [Nat.blt_eq] using hb)
  | false =>
    have : ¬ e < m := fun x => by
      have : Nat.blt e m = true := by simpa [Nat.blt_eq] using x
      rw [this] at hb; cases hb
    exact hh (e - m) (by omega)
def bbG (fa fb : Nat → Int) : Nat → Nat → Value := fun e j => match j with | 0 => .int .u16 (fa e) | _ + 1 => .int .u8 (fb e)
theorem Gok.bb {fa fb : Nat → Int} {n : Nat} (h : ∀ e, e < n → B16 (fa e) ∧ B8 (fb e)) : Gok n (bbG fa fb) := fun e he => ⟨fa e, fb e, rfl, rfl, h e he⟩
theorem Gok.nil {G : Nat → Nat → Value} : Gok 0 G := fun e he => by omega
theorem Gok.cons {n : Nat} {x y : Int} {l : List Value} (hx : B16 x) (hy : B8 y) (h : Gok n (lstG 2 n l)) : Gok (n + 1) (lstG 2 (n + 1) (.int .u16 x :: .int .u8 y :: l)) := fun e he => by
  cases n with
  | zero =>
    obtain rfl : e = 0 := by omega
    exact ⟨x, y, rfl, rfl, hx, hy⟩
  | succ n =>
    cases e with
    | zero => exact ⟨x, y, by rw [lstG, vif_eq]; rfl, by rw [lstG, vif_eq]; rfl, hx, hy⟩
    | succ e =>
      obtain ⟨u, v, h1, h2, h3⟩ := h e (by omega)
      have e1 : Nat.beq (e + 1) 0 = false := rfl
      exact ⟨u, v, by rw [lstG, vif_eq, e1]; exact h1, by rw [lstG, vif_eq, e1]; exact h2, h3⟩
def GA (L : List Value) (c : Nat) : Nat → Nat → Value := lstG 2 c L
def gm (G : Nat → Nat → Value) (c : Nat) : Nat → Int := memF (atOf G) (byOf G) c
def gs (g : Nat → Int) : Nat → Int := fun e => g (0 + e)
theorem gs_eq (g : Nat → Int) : gs g = g := by funext e; unfold gs; rw [Nat.zero_add]
def tOk (G : Nat → Nat → Value) (c : Nat) : Bool × Bool := (okM c G, true)
def tR1 (k : Nat) : Bool × Bool := (Nat.ble (0 + (k + 1)) (k + 1) && (true && Nat.ble (0 + (k + 1)) 4294967296), true)
theorem tOk_ok {G : Nat → Nat → Value} {c : Nat} (h : Gok c G) (hc : c ≤ 1000) : trusted [tOk G c] := ⟨h.ok hc, trivial⟩
theorem tR1_ok {k : Nat} (h : k ≤ 1000) : trusted [tR1 k] := by
  refine ⟨?_, trivial⟩
  show (Nat.ble (0 + (k + 1)) (k + 1) && (true && Nat.ble (0 + (k + 1)) 4294967296)) = true
  rw [Nat.zero_add, Bool.and_eq_true, Bool.and_eq_true, Nat.ble_eq, Nat.ble_eq]
  exact ⟨Nat.le_refl _, rfl, by omega⟩
theorem tr_cons {x : Bool × Bool} {l : List (Bool × Bool)} (h : trusted [x]) (k : trusted l) : trusted (x :: l) := ⟨h.1, k⟩
end Go.Proofs.Ytnknopebjdgdjaa
namespace Go.Ly
open Go.RowKit
section
variable {P : Program}
def freshR (H : Heap) (nx r : Nat) (c : List Value) (t : TypeId) (z : Nat) (v : Value) : ER := bif Nat.beq H.lock 0 && Nat.blt (H.next + nx) 2147483000 then .mem (renV (fun i => H.next + i) v) { m := H.m.set (H.next + r) (some (.row c t z)), next := H.next + nx } else .no
end
end Go.Ly
namespace Go.Proofs.Ytnknopebjdgdjaa
open Go Go.Ly Go.RowKit
def condB (op : Int) : Bool := (decide (42 ≤ op) && decide (op ≤ 45)) || (decide (48 ≤ op) && decide (op ≤ 51))
def nearB (n : Int) : Bool := decide (n ≤ 127) || decide (65408 ≤ n)
def jb (op n : Int) : List Value := [.int .u8 (op + 72), .int .u8 (n % 256)]
def jV : Value := .tuple ⟨[.slice (some ⟨7, 0, none⟩) 2 18446744073709551616, .int .i64 0]⟩
def jN : Value := .tuple ⟨[.slice none 0 0, .int .i64 5]⟩
def jumpE (H : Heap) (args : List Value) : ER := match args with
  | [.agg ⟨[.int .i64 op, .int .i64 d, .int .i64 s, .int .u16 n]⟩] =>
    bif (d == 20) && (s == 0) then .tst (condB op && inw n) (.tst (nearB n) (freshR H 8 7 (jb op n) 5 1 jV) (.val jN)) .no else .no
  | _ => .no
def condC (l : List Value) : Option (Bool × Value) := match l with
  | [.int .i64 op] => some (true, .bool (condB op))
  | _ => none
def ctxK0 : Ctx := ctxA.withH 30 memC |>.withH 22 jumpE |>.with 21 condC
def ctxK1 : Ctx := ctxK0.withH 16 (hconTree ctxK0 600 16) |>.withH 15 (hconTree ctxK0 3000 15)
def ctxK : Ctx := haltAt ctxK1 17
end Go.Proofs.Ytnknopebjdgdjaa
namespace Go.Proofs.Ytnknopebjdgdjaa
open Go Go.Ly Go.RowKit
def rd5 : St := Ly.start Try.f5 [] H0
def sv0 : Sv := ⟨0, 0, 0, 0, 0, 0, 0, 0, false, false, false, false, false, 0, false⟩
def svC (s : Sv) (i c d : Value) : List Value := [.int .u16 s.r0, .int .u16 s.r1, .int .u16 s.r2, .int .u16 s.r3, .int .u16 s.r4, .int .u16 s.r5, .int .u16 s.r6, .int .u16 s.r7, .bool s.fs, .bool s.fz, .bool s.fx, .bool s.fp, .bool s.fc, .int .u16 s.ip, .bool s.ie, i, c, d]
def mOf (s : Sv) : Mc := ⟨s.r0, s.r1, s.r2, s.r3, s.r4, s.r5, s.r6, s.r7, s.fs, s.fz, s.fx, s.fp, s.fc, s.ip, s.ie, false⟩
def k5 : List KI := ((Ly.run ctxK 9000 [] (Ly.start Try.f5 [svV sv0 nilS nilS nilS, .int .i64 42, .int .u16 1] (mkH [some (ints .u8 (fun _ => 0) 0), some (bytes2 (fun _ => 0) (fun _ => 0) 0), some (bytes2 (fun _ => 0) (fun _ => 0) 0)]))).st rd5).top.k
def inV (x j n : Nat) : Value := .slice (some ⟨x, j, none⟩) n 18446744073709551616
def GD (fc fd : Nat → Int) : Nat → Nat → Value := fun i j => bbG fc fd (0 + i) j
def tLi (n : Nat) : Bool × Bool := (decide (((n + 1 : Nat) : Int) ≤ 300) == true, true)
def tLc (k : Nat) : Bool × Bool := (decide (((k + 1 : Nat) : Int) ≤ 600) == true, true)
def tLd (l : Nat) : Bool × Bool := ((!(decide ((l : Int) ≤ 300))) == false, true)
def tMe (n : Nat) : Bool × Bool := (decide ((256 : Int) < ((n + 1 : Nat) : Int)) == false, true)
def tMx (n : Nat) : Bool × Bool := (decide ((256 : Int) < ((n + 1 : Nat) : Int)), false)
def tR2 (k : Nat) : Bool × Bool := (true && (Nat.ble (0 + (0 + (k + 1))) (k + 1) && ((Nat.beq 2 2 && (Nat.beq 78 78 && (Nat.beq (k + 1) (0 + (k + 1)) && true))) && (Nat.ble 1 (0 + (k + 1)) && Nat.ble (0 + (k + 1) + 1) 4294967296))), true)
def tOd (fc fd : Nat → Int) (l : Nat) : Bool × Bool := (Nat.ble (0 + l) l && (true && okM l (GD fc fd)), true)
end Go.Proofs.Ytnknopebjdgdjaa
end
