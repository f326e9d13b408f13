/- Part U: contracts of functions of plain values that answer with one new row; of functions that read one row. -/
import Derived.Test.YtofimkcfenemlaaLyT
namespace Go.Ly
open Go.RowKit
set_option linter.unusedSimpArgs false
set_option linter.unusedVariables false

mutual
theorem ren_plain (σ : Nat → Nat) : ∀ (v : Value), plain v = true → renV σ v = v
  | .bool _, _ => rfl
  | .int _ _, _ => rfl
  | .string _, _ => rfl
  | .pointer none, _ => rfl
  | .pointer (some _), h => by simp [plain] at h
  | .slice none _ _, _ => rfl
  | .slice (some _) _ _, h => by simp [plain] at h
  | .map none, _ => rfl
  | .map (some _), h => by simp [plain] at h
  | .func _ _ _, h => by simp [plain] at h
  | .nilFunc, _ => rfl
  | .iface _ _, h => by simp [plain] at h
  | .nilIface, _ => rfl
  | .agg ⟨xs⟩, h => by simp only [plain] at h; simp only [renV]; rw [renL_plain σ xs h]
  | .tuple ⟨xs⟩, h => by simp only [plain] at h; simp only [renV]; rw [renL_plain σ xs h]
  | .float _ _, h => by simp [plain] at h
  | .complex _ _ _, h => by simp [plain] at h
  | .chan _, h => by simp [plain] at h
theorem renL_plain (σ : Nat → Nat) : ∀ (l : List Value), plainL l = true → renL σ l = l
  | [], _ => rfl
  | v :: r, h => by
    simp only [plainL, Bool.and_eq_true] at h
    simp only [renL]; rw [ren_plain σ v h.1, renL_plain σ r h.2]
end

section
variable {P : Program} {C : Ctx}

/-- a new row under the next numbers -/
noncomputable def freshE (H : Heap) (nx r : Nat) (c : List Value) (t : TypeId) (v : Value) : ER :=
  bif Nat.blt (H.next + nx) 2147483000 then .mem (renV (fun i => H.next + i) v) { m := H.m.set (H.next + r) (some (.cells c t)), next := H.next + nx } else .no

theorem freshE_good {f : FuncId} {args : List Value} {v : Value} {nx r : Nat} {c : List Value} {t : TypeId} (ha : plainL args = true) (hr : r < nx) (hc : plainL c = true)
    (h : LCalls P f args H0 (fun u K => u = v ∧ K.next = nx ∧ K.get r = some (.cells c t))) (H : Heap) : HGood P f args H (freshE H nx r c t v) := by
  unfold freshE
  cases hb : Nat.blt (H.next + nx) 2147483000 with
  | false => exact trivial
  | true =>
    simp only [cond_true]
    have hb' : H.next + nx < 2147483000 := by simpa [Nat.blt_eq] using hb
    have hn0 : H0.next = 0 := rfl
    have hg0 : ∀ i, H0.get i = none := fun i => by simp [H0, Heap.get, Tr.get_nil]
    have hext : ext (fun _ => 0) H0.next H.next = fun i => H.next + i := by
      funext i; rw [ext_ge (by rw [hn0]; omega), hn0]; simp
    have hf := LCalls.frame (H := H) (σ := fun _ => 0) (Q := fun u K => u = renV (fun i => H.next + i) v ∧ K = { m := H.m.set (H.next + r) (some (.cells c t)), next := H.next + nx }) h
      ⟨by rw [hn0]; simp [big], (fun i hi => by rw [hn0] at hi; omega), (fun i o ho => by rw [hg0] at ho; cases ho), (fun i o ho => by rw [hg0] at ho; cases ho), (fun i j hi => by rw [hn0] at hi; omega)⟩
      (by
        rintro vs Hs' ⟨rfl, h1, h2⟩
        refine ⟨_, ⟨by rw [hn0]; omega, by rw [hn0, h1]; simp, by show H.next + nx < big; unfold big; exact hb', fun k o ho => ?_⟩, by rw [hext], rfl⟩
        have hk : (Heap.get { m := H.m.set (H.next + r) (some (.cells c t)), next := H.next + nx } k) = if k = H.next + r then some (.cells c t) else H.get k := Tr.get_set _ _ _ (by unfold big; omega) k
        rw [hk] at ho
        by_cases e : k = H.next + r
        · rw [if_pos e] at ho
          simp only [Option.some.injEq] at ho
          subst ho
          refine .inl ⟨r, .cells c t, by rw [hext]; exact e.symm, h2, ?_⟩
          rw [hext]; simp only [renO]; rw [renL_plain _ c hc]
        · rw [if_neg e] at ho
          exact .inr ⟨fun i hi => by rw [hn0] at hi; omega, ho⟩)
    rw [hext, renL_plain _ args ha] at hf
    exact hf

/-- from a run over the empty heap -/
theorem LCalls_end (hC : C.Ok P) {f : FuncId} {fn : Func} {args : List Value} {H : Heap} {t : List (Bool × Bool)} {v : Value} {nx r : Nat} {o : LO} (n : Nat) (p : Path) (hf : C.fn.get f = some fn)
    (hl : (Nat.ble args.length fn.ntmps && Nat.blt fn.ntmps 1000000) = true) (h : ((run C n p (start fn args H)).end?.map fun x => (x.1, x.2.1, x.2.2.next, x.2.2.get r)) = some (t, v, nx, some o)) (ht : trusted t) :
    LCalls P f args H (fun u K => u = v ∧ K.next = nx ∧ K.get r = some o) := by
  refine LCalls_of hC hf hl ?_
  cases he : (run C n p (start fn args H)).end? with
  | none => rw [he] at h; cases h
  | some x =>
    obtain ⟨t', v', K⟩ := x
    rw [he] at h
    simp only [Option.map_some, Option.some.injEq, Prod.mk.injEq] at h
    obtain ⟨rfl, rfl, rfl, h4⟩ := h
    exact MWp.done hC n p he ht ⟨rfl, rfl, h4⟩

/-- a plain answer, as a contract on heaps -/
theorem HGood_val {f : FuncId} {args : List Value} {v : Value} (ha : plainL args = true) (hv : plain v = true) (h : ∀ w, Calls P f ⟨args⟩ w (fun e w' => e = .returned v ∧ Below w.heap.size w w')) (H : Heap) : HGood P f args H (.val v) := by
  intro ρ args' w hva hr
  obtain rfl := plainL_eq ha hva
  refine (h w).mono ?_
  rintro e w' ⟨rfl, hb⟩
  exact ⟨ρ, v, v, H, rfl, ⟨rfl, rfl⟩, Ren.le_refl _, Fresh.refl _ _, plain_VR v hv, hr.below hb, Below.toKeep hb⟩

/-! ### functions that read one row of numbers -/
noncomputable def con1 (k : IntKind) (mk : Nat → (Nat → Int) → Bool × Value) (H : Heap) (args : List Value) : ER :=
  match args with
  | [x] =>
    match srcR H 1 x with
    | some (g1, u) => .tst (g1 && (u.ints k && (mk u.n u.at).1)) (.val (mk u.n u.at).2) .no
    | none => .no
  | _ => .no

theorem con1_good {k : IntKind} {f : FuncId} {mk : Nat → (Nat → Int) → Bool × Value} (hp : ∀ n p, plain (mk n p).2 = true)
    (hS : ∀ (n : Nat) (p : Nat → Int), (mk n p).1 = true → LCalls P f [sl 0 n] (mkH [some (ints k p n)]) (fun u _ => u = (mk n p).2))
    (hN : ∀ (p : Nat → Int), LCalls P f [.slice none 0 0] (mkH []) (fun u _ => u = (mk 0 p).2))
    (args : List Value) (ρ : Ren) (args' : List Value) (w : World) (H : Heap) (ha : VRL ρ args args') (hr : Rep ρ H w) : ConGood P f args' w (con1 k mk H args) := by
  unfold con1
  split
  · rename_i x
    simp only [VRL] at ha
    obtain ⟨x', _, hx, rfl, rfl⟩ := ha
    cases h1 : srcR H 1 x with
    | none => exact trivial
    | some gu =>
      obtain ⟨g1, u⟩ := gu
      simp only
      refine ⟨fun hg => ?_, fun _ => trivial⟩
      simp only [Bool.and_eq_true] at hg
      obtain ⟨e1, e3, e5⟩ := hg
      refine ⟨fun ρ => plain_VR _ (hp _ _), ?_⟩
      rcases nil_or h1 with ⟨rfl, rfl⟩ | ⟨a, n, c, rfl⟩
      · simp only [VR] at hx; subst hx
        exact calls_ro (ρ := rowsRen []) (hN _) (hp _ _) (by simp [VRL, VR]) (rows_rep (rs := []) rfl (by simp) (by simp) (by simp)) (fun _ => rfl)
      · obtain ⟨hun, p, hrow⟩ := view_row hr hx h1 e1 e3
        rw [hun] at e5 ⊢
        exact calls_ro (ρ := rowsRen [p]) (hS n u.at e5) (hp _ _) (by simp only [VRL]; exact ⟨x', [], sl_VR hrow (by simp), rfl, rfl⟩)
            (rows_rep (l := [p]) (rs := [(k, u.at, n)]) rfl (by simp) (by
              intro i q hq
              rcases i with _ | i
              · simp at hq; exact hrow.low q hq
              · simp at hq) (by
              intro i k' f' n' h0 e he
              rcases i with _ | i
              · simp at h0; obtain ⟨rfl, rfl, rfl⟩ := h0
                obtain ⟨q, h3, h4⟩ := hrow.cell e he
                exact ⟨q, by simp [h3], h4⟩
              · simp at h0)) (fun _ => rfl)
  · exact trivial
end
end Go.Ly
