/- Part T: slots of a state by a list; a row's numbers; contracts of functions that only read rows. -/
import Derived.Test.YtofimkcfenemlaaLyS
namespace Go.Ly
open Go.RowKit
set_option linter.unusedSimpArgs false
set_option linter.unusedVariables false

noncomputable def lookS : List (Nat × Value) → Nat → Value
  | [], _ => anyV
  | (j, v) :: r, i => bif Nat.beq j i then v else lookS r i
noncomputable def slots (n : Nat) (l : List (Nat × Value)) : List Value := (List.range n).map (lookS l)
/-- a slice of row number i, from its begin on -/
noncomputable def sl (i n : Nat) : Value := .slice (some ⟨i, 0, none⟩) n 18446744073709551616
/-- a row of numbers, only read -/
noncomputable def ints (k : IntKind) (f : Nat → Int) (n : Nat) : LO := .arg 1 (fun e _ => .int k (f e)) n

/-! ### a run up to a loop's head -/
noncomputable def headAt (keep L : List Nat) (d : St) (r : RO) : Bool × List (Bool × Bool) × Bool × (Func × List KI × Option Tmp × Nat) × List Value × List (Option LO) :=
  (r.isHalt, r.trust, colB keep L (r.st d), ((r.st d).top.fn, (r.st d).top.k, (r.st d).top.dst, (r.st d).base), colVals keep L (r.st d).top.fn.ntmps (r.st d).top.t, colObjs L (r.st d).H)
theorem MWp.head {P : Program} {C : Ctx} {Q : Value → Heap → Prop} (hC : C.Ok P) {S d : St} {t : List (Bool × Bool)} {fn : Func} {k : List KI} {dst : Option Tmp} {base : Nat} {vals : List Value} {os : List (Option LO)} (keep L : List Nat) (n : Nat) (p : Path)
    (h : headAt keep L d (run C n p S) = (true, t, true, (fn, k, dst, base), vals, os)) (htr : trusted t) (hP : ∀ o ∈ os, ∀ x, o = some x → plainO x) (hs : MWp P (mkSt fn k dst base vals os) Q) : MWp P S Q := by
  simp only [headAt, Prod.mk.injEq] at h
  obtain ⟨h1, h2, h3, ⟨h4, h5, h6, h7⟩, h8, h9⟩ := h
  refine MWp.seg hC n p h1 h2 htr (d := d) (MWp.collect keep L h3 (by rw [h9]; exact hP) ?_)
  unfold Go.Ly.collect
  rw [h8, h9, h4, h5, h6, h7]
  exact hs
theorem plain_ints {k : IntKind} {f : Nat → Int} {n : Nat} : plainO (ints k f n) := fun _ _ => by simp [noBlk, blks]

/-! ### a heap of rows that are only read: nothing is written -/
section
variable {P : Program}
theorem calls_ro {f : FuncId} {args0 args' : List Value} {os : List (Option LO)} {v : Value} {ρ : Ren} {w : World} (h : LCalls P f args0 (mkH os) (fun u _ => u = v)) (hv : plain v = true)
    (ha : VRL ρ args0 args') (hr : Rep ρ (mkH os) w) (hro : ∀ i, ρ.ro i = true) : Calls P f ⟨args'⟩ w (fun e w' => e = .returned v ∧ Below w.heap.size w w') := by
  refine (h ρ args' w ha hr).mono ?_
  rintro e w' ⟨ρ2, u, u', H', rfl, rfl, _, _, h3, _, h5⟩
  exact ⟨by rw [plain_eq hv h3], h5.os, h5.tape, h5.output, h5.size, fun k hk => h5.block k hk (fun i _ => hro i)⟩

/-- where a row is: its block, its first cell, its capacity -/
structure Plc where
  b : Nat
  o : Nat
  c : Nat

/-- the renaming of some real rows -/
noncomputable def rowsRen (l : List (Option Plc)) : Ren :=
  ⟨fun i => ((l[i]?).getD none).map (·.b), fun i => (((l[i]?).getD none).map (·.c)).getD 0, fun _ => true, fun i => (((l[i]?).getD none).map (·.o)).getD 0, fun _ => 1⟩

/-- a real row of numbers: a slice value, and where it is -/
structure RealRow (w : World) (k : IntKind) (f : Nat → Int) (n : Nat) (x' : Value) (p : Option Plc) : Prop where
  shape : ∃ a' c', x' = .slice (some a') n c' ∧ n ≤ c' ∧ (n ≠ 0 → ∃ q, p = some q ∧ a' = ⟨q.b, q.o, none⟩ ∧ q.c = c')
  low : ∀ q, p = some q → q.b < w.heap.size
  cell : ∀ e, e < n → ∃ q, p = some q ∧ w.cell? ⟨q.b, q.o + e, none⟩ = some (.int k (f e))

theorem rows_rep {w : World} {l : List (Option Plc)} {rs : List (IntKind × (Nat → Int) × Nat)} (hl : l.length = rs.length) (hs : rs.length < 1000) (hb : ∀ (i : Nat) (q : Plc), (l[i]?).getD none = some q → q.b < w.heap.size)
    (hr : ∀ (i : Nat) (k : IntKind) (f : Nat → Int) (n : Nat), rs[i]? = some (k, f, n) → ∀ e, e < n → ∃ q : Plc, (l[i]?).getD none = some q ∧ w.cell? ⟨q.b, q.o + e, none⟩ = some (.int k (f e))) : Rep (rowsRen l) (mkH (rs.map fun r => some (ints r.1 r.2.1 r.2.2))) w := by
  have hlen : (rs.map fun r => some (ints r.1 r.2.1 r.2.2)).length < big := by simp [big]; omega
  have hget : ∀ j o, (mkH (rs.map fun r => some (ints r.1 r.2.1 r.2.2))).get j = some o → ∃ r, rs[j]? = some r ∧ o = ints r.1 r.2.1 r.2.2 := by
    intro j o ho
    rw [mkH_get _ hlen] at ho
    simp only [List.getElem?_map] at ho
    cases hj : rs[j]? with
    | none => rw [hj] at ho; simp at ho
    | some r => rw [hj] at ho; simp at ho; exact ⟨r, rfl, ho.symm⟩
  refine ⟨by simp [mkH, big]; omega, fun i b h => ?_, fun i j b o hi hown => ?_, fun i o ho => ?_, fun i o ho hown => ?_, fun i k g n ho => ?_⟩
  · simp only [rowsRen, Option.map_eq_some_iff] at h
    obtain ⟨q, h1, rfl⟩ := h
    refine ⟨?_, hb i q h1⟩
    rcases Nat.lt_or_ge i l.length with h2 | h2
    · simpa [mkH, hl] using h2
    · rw [List.getElem?_eq_none h2] at h1; simp at h1
  · obtain ⟨r, _, rfl⟩ := hget i o hi; simp [ints, LO.own] at hown
  · obtain ⟨r, h1, _⟩ := hget i o ho
    have := (List.getElem?_eq_some_iff.1 h1).1
    simpa [mkH] using this
  · obtain ⟨r, _, rfl⟩ := hget i o ho; simp [ints, LO.own] at hown
  · obtain ⟨r, h1, h2⟩ := hget i _ ho
    simp only [ints, LO.arg.injEq] at h2
    obtain ⟨rfl, rfl, rfl⟩ := h2
    refine ⟨rfl, rfl, fun e j he hj => ⟨rfl, ?_⟩⟩
    obtain ⟨q, h3, h4⟩ := hr i r.1 r.2.1 r.2.2 h1 e he
    have hj0 : j = 0 := by omega
    subst hj0
    refine ⟨q.b, .int r.1 (r.2.1 e), by simp [rowsRen, h3], ?_, by simp [VR]⟩
    simp only [rowsRen, h3, Option.map_some, Option.getD_some, Nat.mul_one, Nat.add_zero]
    exact h4

theorem sl_VR {w : World} {k : IntKind} {f : Nat → Int} {n i : Nat} {x' : Value} {l : List (Option Plc)} {p : Option Plc} (h : RealRow w k f n x' p) (hp : (l[i]?).getD none = p) : VR (rowsRen l) (sl i n) x' := by
  obtain ⟨a', c', rfl, hc, hn⟩ := h.shape
  simp only [sl, VR]
  refine ⟨a', c', rfl, hc, fun e => absurd rfl e, fun h0 => ?_⟩
  obtain ⟨q, rfl, rfl, rfl⟩ := hn h0
  exact ⟨q.b, by simp [rowsRen, hp], by simp [Ren.at, rowsRen, hp], fun _ _ => by simp [rowsRen, hp]⟩
end

/-! ### the numbers of a slice's elements -/
noncomputable def isK (k : IntKind) : Value → Bool
  | .int k' _ => kbeq k' k
  | _ => false
noncomputable def intV : Value → Int
  | .int _ n => n
  | _ => 0
theorem isK_eq {k : IntKind} {v : Value} (h : isK k v = true) : v = .int k (intV v) := by
  cases v <;> simp [isK] at h
  rw [kbeq_eq h]; rfl
noncomputable def Rw.ints (k : IntKind) : Rw → Bool
  | .lst _ l => l.all (isK k)
  | .gen n g => (List.range n).all fun e => isK k (g e 0)
noncomputable def Rw.at : Rw → Nat → Int
  | .lst _ l => fun e => intV ((l[e]?).getD undef)
  | .gen _ g => fun e => intV (g e 0)

/-- two rows are the same -/
noncomputable def eqU (n : Nat) (f g : Nat → Int) : Bool := (List.range n).all fun e => f e == g e
theorem eqU_true {n : Nat} {f g : Nat → Int} (h : ∀ e, e < n → f e = g e) : eqU n f g = true := by
  unfold eqU; rw [List.all_eq_true]; intro e he; simpa using h e (List.mem_range.1 he)
theorem eqU_false {n : Nat} {f g : Nat → Int} {e : Nat} (he : e < n) (h : f e ≠ g e) : eqU n f g = false := by
  unfold eqU; rw [List.all_eq_false]; exact ⟨e, List.mem_range.2 he, by simpa using h⟩
theorem eqU_iff {n : Nat} {f g : Nat → Int} : eqU n f g = true ↔ ∀ e, e < n → f e = g e := by
  unfold eqU; rw [List.all_eq_true]
  exact ⟨fun h e he => by simpa using h e (List.mem_range.2 he), fun h e he => by simpa using h e (List.mem_range.1 he)⟩

section
variable {P : Program} {ρ : Ren} {w : World} {H : Heap}
/-- a slice that is not nil, by its numbers -/
theorem view_row (hr : Rep ρ H w) {a : Addr} {n c : Nat} {x' : Value} {gd : Bool} {v : Rw} {k : IntKind} (hx : VR ρ (.slice (some a) n c) x') (h : srcR H 1 (.slice (some a) n c) = some (gd, v)) (hgd : gd = true) (hi : v.ints k = true) :
    v.n = n ∧ ∃ p, RealRow w k v.at n x' p := by
  obtain ⟨l', a1, c1, hok, hx', hcells⟩ := srcR_cells hr hx h hgd
  obtain ⟨a', c', rfl⟩ := VR_slice_some hx
  have hvn : v.n = n := by injection hx' with _ e _; exact e.symm
  have hlen := hok.len
  have hval : ∀ e, e < n → l'[e]? = some (.int k (v.at e)) := by
    intro e he
    have hlt : e < l'.length := by rw [hlen, hvn]; omega
    cases v with
    | lst m l =>
      have hll := VRL.length hok.1
      have hget : l[e]? = some (l[e]'(by omega)) := List.getElem?_eq_getElem (by omega)
      obtain ⟨u, h1, h2⟩ := VRL.get hok.1 e _ hget
      have h3 := isK_eq (List.all_eq_true.1 hi _ (List.getElem_mem (by omega : e < l.length)))
      rw [h3] at h2
      simp only [VR] at h2
      rw [h1, h2]
      simp [Rw.at, hget]
    | gen m g =>
      have hm : m = n := hvn
      obtain ⟨u, h1, h2⟩ := hok.2.val e 0 (by omega) (by omega)
      have h3 := isK_eq (List.all_eq_true.1 hi e (List.mem_range.2 (by omega)))
      rw [h3] at h2
      simp only [VR] at h2
      rw [Nat.zero_add, Nat.mul_one, Nat.add_zero] at h1
      rw [h1, h2]; rfl
  refine ⟨hvn, ?_⟩
  have hsh := hx
  simp only [VR] at hsh
  obtain ⟨a2, c2, e2, hn2, _, haddr⟩ := hsh
  injection e2 with e3 _ e4
  simp only [Option.some.injEq] at e3
  subst e3 e4
  by_cases hn : n = 0
  · exact ⟨none, ⟨_, _, rfl, hn2, fun h0 => absurd hn h0⟩, (fun _ e => by cases e), (fun e he => by omega)⟩
  · obtain ⟨b, hb, rfl, _⟩ := haddr hn
    refine ⟨some ⟨b, ρ.at a, c'⟩, ⟨_, _, rfl, hn2, fun _ => ⟨_, rfl, rfl, rfl⟩⟩, fun q e => ?_, fun e he => ⟨_, rfl, ?_⟩⟩
    · simp only [Option.some.injEq] at e; subst e; exact (hr.dom _ _ hb).2
    · exact hcells e _ (hval e he) b hb

/-- what a function that holds two rows of numbers against each other answers -/
noncomputable def conEq (k : IntKind) (H : Heap) (args : List Value) : ER :=
  match args with
  | [x, y] =>
    match srcR H 1 x, srcR H 1 y with
    | some (g1, u), some (g2, v) => .tst (g1 && (g2 && (u.ints k && (v.ints k && Nat.ble u.n 9223372036854775807)))) (.val (.bool (Nat.beq u.n v.n && eqU u.n u.at v.at))) .no
    | _, _ => .no
  | _ => .no

theorem nil_or {x : Value} {size : Nat} {gd : Bool} {v : Rw} (h : srcR H size x = some (gd, v)) : (x = .slice none 0 0 ∧ v = .lst 0 []) ∨ ∃ a n c, x = .slice (some a) n c := by
  unfold srcR at h
  split at h
  · simp at h; exact .inl ⟨rfl, h.2.symm⟩
  · exact .inr ⟨_, _, _, rfl⟩
  · simp at h

theorem conEq_good {k : IntKind} {f : FuncId}
    (hSS : ∀ (n m : Nat) (p q : Nat → Int), n ≤ 9223372036854775807 → LCalls P f [sl 0 n, sl 1 m] (mkH [some (ints k p n), some (ints k q m)]) (fun u _ => u = .bool (Nat.beq n m && eqU n p q)))
    (hNS : ∀ (m : Nat) (q : Nat → Int), LCalls P f [.slice none 0 0, sl 0 m] (mkH [some (ints k q m)]) (fun u _ => u = .bool (Nat.beq 0 m)))
    (hSN : ∀ (n : Nat) (p : Nat → Int), LCalls P f [sl 0 n, .slice none 0 0] (mkH [some (ints k p n)]) (fun u _ => u = .bool (Nat.beq n 0)))
    (hNN : LCalls P f [.slice none 0 0, .slice none 0 0] (mkH []) (fun u _ => u = .bool true))
    (args : List Value) (ρ : Ren) (args' : List Value) (w : World) (H : Heap) (ha : VRL ρ args args') (hr : Rep ρ H w) : ConGood P f args' w (conEq k H args) := by
  unfold conEq
  split
  · rename_i x y
    simp only [VRL] at ha
    obtain ⟨x', _, hx, ⟨y', _, hy, rfl, rfl⟩, rfl⟩ := ha
    split
    · rename_i g1 u g2 v h1 h2
      refine ⟨fun hg => ?_, fun _ => trivial⟩
      simp only [Bool.and_eq_true] at hg
      obtain ⟨e1, e2, e3, e4, e5⟩ := hg
      have e5' := Nat.le_of_ble_eq_true e5
      refine ⟨fun ρ => by simp [VR], ?_⟩
      rcases nil_or h1 with ⟨rfl, rfl⟩ | ⟨a, n, c, rfl⟩
      · simp only [VR] at hx; subst hx
        rcases nil_or h2 with ⟨rfl, rfl⟩ | ⟨b, m, d, rfl⟩
        · simp only [VR] at hy; subst hy
          exact calls_ro (ρ := rowsRen []) hNN (by simp [plain]) (by simp [VRL, VR]) (rows_rep (rs := []) rfl (by simp) (by simp) (by simp)) (fun _ => rfl)
        · obtain ⟨hvn, p, hrow⟩ := view_row hr hy h2 e2 e4
          have := calls_ro (ρ := rowsRen [p]) (hNS m v.at) (by simp [plain]) (by simp only [VRL]; exact ⟨.slice none 0 0, [y'], by simp [VR], ⟨y', [], sl_VR hrow (by simp), rfl, rfl⟩, rfl⟩)
            (rows_rep (l := [p]) (rs := [(k, v.at, m)]) rfl (by simp) (by
              intro i q hq
              rcases i with _ | i
              · simp at hq; exact hrow.low q hq
              · simp at hq) (by
              intro i k' f' n' h0 e he
              rcases i with _ | i
              · simp at h0; obtain ⟨rfl, rfl, rfl⟩ := h0
                obtain ⟨q, h3, h4⟩ := hrow.cell e he
                exact ⟨q, by simp [h3], h4⟩
              · simp at h0)) (fun _ => rfl)
          have he : (Nat.beq (Rw.n (.lst 0 [])) v.n && eqU (Rw.n (.lst 0 [])) (Rw.at (.lst 0 [])) v.at) = Nat.beq 0 m := by rw [hvn]; simp [Rw.n, eqU]
          rw [he]
          exact this
      · obtain ⟨hun, p, hrow⟩ := view_row hr hx h1 e1 e3
        rcases nil_or h2 with ⟨rfl, rfl⟩ | ⟨b, m, d, rfl⟩
        · simp only [VR] at hy; subst hy
          have := calls_ro (ρ := rowsRen [p]) (hSN n u.at) (by simp [plain]) (by simp only [VRL]; exact ⟨x', [.slice none 0 0], sl_VR hrow (by simp), ⟨.slice none 0 0, [], by simp [VR], rfl, rfl⟩, rfl⟩)
            (rows_rep (l := [p]) (rs := [(k, u.at, n)]) rfl (by simp) (by
              intro i q hq
              rcases i with _ | i
              · simp at hq; exact hrow.low q hq
              · simp at hq) (by
              intro i k' f' n' h0 e he
              rcases i with _ | i
              · simp at h0; obtain ⟨rfl, rfl, rfl⟩ := h0
                obtain ⟨q, h3, h4⟩ := hrow.cell e he
                exact ⟨q, by simp [h3], h4⟩
              · simp at h0)) (fun _ => rfl)
          rw [show (Nat.beq u.n (Rw.n (.lst 0 [])) && eqU u.n u.at (Rw.at (.lst 0 []))) = Nat.beq n 0 by
            rw [hun]; simp only [Rw.n]
            cases hb : Nat.beq n 0 with
            | false => rfl
            | true => rw [Nat.eq_of_beq_eq_true hb]; rfl]
          exact this
        · obtain ⟨hvn, p2, hrow2⟩ := view_row hr hy h2 e2 e4
          have := calls_ro (ρ := rowsRen [p, p2]) (hSS n m u.at v.at (by rw [← hun]; exact e5')) (by simp [plain]) (by simp only [VRL]; exact ⟨x', [y'], sl_VR hrow (by simp), ⟨y', [], sl_VR hrow2 (by simp), rfl, rfl⟩, rfl⟩)
            (rows_rep (l := [p, p2]) (rs := [(k, u.at, n), (k, v.at, m)]) rfl (by simp) (by
              intro i q hq
              rcases i with _ | _ | i
              · simp at hq; exact hrow.low q hq
              · simp at hq; exact hrow2.low q hq
              · simp at hq) (by
              intro i k' f' n' h0 e he
              rcases i with _ | _ | i
              · simp at h0; obtain ⟨rfl, rfl, rfl⟩ := h0
                obtain ⟨q, h3, h4⟩ := hrow.cell e he
                exact ⟨q, by simp [h3], h4⟩
              · simp at h0; obtain ⟨rfl, rfl, rfl⟩ := h0
                obtain ⟨q, h3, h4⟩ := hrow2.cell e he
                exact ⟨q, by simp [h3], h4⟩
              · simp at h0)) (fun _ => rfl)
          rw [hun, hvn]
          exact this
    · exact trivial
  · exact trivial
end
end Go.Ly
