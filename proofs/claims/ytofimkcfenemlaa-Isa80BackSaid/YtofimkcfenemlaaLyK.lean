/- Part K: each step is sound. -/
import Derived.Test.YtofimkcfenemlaaLyJ
namespace Go.Ly
open Go.RowKit
set_option linter.unusedSimpArgs false
set_option linter.unusedVariables false
section
variable {P : Program} {ρ : Ren} {w : World} {H : Heap} {C : Ctx}

theorem loopWp_of {c : Code} {Q : Exit → Act → World → Prop} {a : Act} (h : c.wp P (Exit.then (loopWp P c Q) Q) a w) : loopWp P c Q a w := by
  intro b k cs
  obtain ⟨e, a₁, w₁, hq, harr⟩ := h b (.inLoop c :: k) cs
  cases e with
  | normal =>
    obtain ⟨e₂, a₂, w₂, hq₂, harr₂⟩ := hq b k cs
    exact ⟨e₂, a₂, w₂, hq₂, .of_steps (.head step_inLoop harr) harr₂⟩
  | exit id => exact ⟨_, a₁, w₁, hq, .of_steps (.one step_inLoop) (.pass (x := .inLoop c) rfl (fun _ _ => .inl (by simp)) harr)⟩
  | goto l => exact ⟨_, a₁, w₁, hq, .of_steps (.one step_inLoop) (.pass (x := .inLoop c) rfl (fun _ _ => .inl (by simp)) harr)⟩
  | ret => exact ⟨_, a₁, w₁, hq, .of_steps (.one step_inLoop) (.pass (x := .inLoop c) rfl (fun _ _ => .inl (by simp)) harr)⟩
  | panic ch => exact ⟨_, a₁, w₁, hq, .of_steps (.one step_inLoop) (.pass (x := .inLoop c) rfl (fun _ _ => .inl (by simp)) harr)⟩
  | outgrown => exact ⟨_, a₁, w₁, hq, .of_steps (.one step_inLoop) (.pass (x := .inLoop c) rfl (fun _ _ => .inl (by simp)) harr)⟩

theorem loop_of {c : Code} {Q : Exit → Act → World → Prop} {a : Act} (h : c.wp P (Exit.then (loopWp P c Q) Q) a w) : (Code.loop c).wp P Q a w := by
  intro b k cs
  obtain ⟨e, a₁, w₁, hq, harr⟩ := h b (.inLoop c :: k) cs
  cases e with
  | normal =>
    obtain ⟨e₂, a₂, w₂, hq₂, harr₂⟩ := hq b k cs
    exact ⟨e₂, a₂, w₂, hq₂, .of_steps (.head step_loop harr) harr₂⟩
  | exit id => exact ⟨_, a₁, w₁, hq, .of_steps (.one step_loop) (.pass (x := .inLoop c) rfl (fun _ _ => .inl (by simp)) harr)⟩
  | goto l => exact ⟨_, a₁, w₁, hq, .of_steps (.one step_loop) (.pass (x := .inLoop c) rfl (fun _ _ => .inl (by simp)) harr)⟩
  | ret => exact ⟨_, a₁, w₁, hq, .of_steps (.one step_loop) (.pass (x := .inLoop c) rfl (fun _ _ => .inl (by simp)) harr)⟩
  | panic ch => exact ⟨_, a₁, w₁, hq, .of_steps (.one step_loop) (.pass (x := .inLoop c) rfl (fun _ _ => .inl (by simp)) harr)⟩
  | outgrown => exact ⟨_, a₁, w₁, hq, .of_steps (.one step_loop) (.pass (x := .inLoop c) rfl (fun _ _ => .inl (by simp)) harr)⟩

theorem afterWp_ret {Q : Exit → Act → World → Prop} {a : Act} : ∀ (k : List KI), Q .ret a w → afterWp P k Q .ret a w
  | [], h => h
  | .code c :: k, h => afterWp_ret k h
  | .inBlock id :: k, h => afterWp_ret k h
  | .inLoop c :: k, h => afterWp_ret k h
  | .ops all l :: k, h => afterWp_ret k h
  | .opsQ all n l :: k, h => afterWp_ret k h

theorem afterWp_exit {Q : Exit → Act → World → Prop} {a : Act} {id : Nat} {k' : List KI} : ∀ (k : List KI), exitK id k = some k' → afterWp P k' Q .normal a w → afterWp P k Q (.exit id) a w
  | [], e, h => by simp [exitK] at e
  | .code c :: k, e, h => afterWp_exit k e h
  | .inBlock id' :: k, e, h => by
    simp only [exitK] at e
    cases hb : Nat.beq id' id with
    | true =>
      rw [hb] at e; simp at e; subst e
      obtain rfl := Nat.eq_of_beq_eq_true hb
      simp only [afterWp, if_true]; exact h
    | false =>
      rw [hb] at e; simp only [cond_false] at e
      have hne := Nat.ne_of_beq_eq_false hb
      simp only [afterWp]
      rw [if_neg (fun x => hne x.symm)]
      exact afterWp_exit k e h
  | .inLoop c :: k, e, h => afterWp_exit k e h
  | .ops all l :: k, e, h => afterWp_exit k e h
  | .opsQ all n l :: k, e, h => afterWp_exit k e h

theorem then_after {Q : Exit → Act → World → Prop} {x : KI} {k : List KI} (hx : ∀ id, x ≠ .inBlock id) (next : Act → World → Prop) (hn : ∀ a w, afterWp P (x :: k) Q .normal a w → next a w) :
    ∀ e a w, afterWp P (x :: k) Q e a w → Exit.then next (afterWp P k Q) e a w := by
  intro e a w h
  cases e with
  | normal => exact hn a w h
  | _ => cases x <;> first | exact h | (exact absurd rfl (hx _))

theorem block_after {Q : Exit → Act → World → Prop} {id : Nat} {k : List KI} : ∀ e a w, afterWp P (.inBlock id :: k) Q e a w → Exit.inBlock id (afterWp P k Q) e a w := by
  intro e a w h
  cases e <;> exact h

/-- from one state on to the next, the world as it is -/
theorem MWp.move {S S' : St} {Q : Value → Heap → Prop} (hrest : S'.rest = S.rest) (hbase : S'.base = S.base) (hH : S'.H = S.H) (hfn : S'.top.fn = S.top.fn) (ht : S'.top.t = S.top.t)
    (h : MWp P S' Q) (hk : ∀ (TP : Exit → Act → World → Prop) (a : Act) (w : World), afterWp P S'.top.k TP .normal a w → afterWp P S.top.k TP .normal a w) : MWp P S Q := by
  intro ρ w g gs R hr hf hfs hR
  have := h ρ w { g with k := S'.top.k, dst := S'.top.dst } gs R (by rw [hH]; exact hr) ⟨by rw [hfn]; exact hf.fn, rfl, rfl, by rw [hfn, ht]; exact hf.t⟩ (by rw [hrest]; exact hfs) (by rw [hbase]; exact hR)
  unfold stateWp at this ⊢
  rw [hf.k]
  exact hk _ _ _ this

theorem putFr_sound {S : St} {Q : Value → Heap → Prop} {k : List KI} {dst : Option Tmp} {v : Value} {H' : Heap} (hs : (putFr S k dst v H').sat P Q)
    {ρ ρ' : Ren} {w w' : World} {g : AF} {gs : List AF} {R : Value → World → Prop} (hf : FR ρ S.top g) (hfs : FRL ρ S.rest gs) (hle : Ren.le ρ ρ') (hfr : Fresh ρ ρ' w) (hr' : Rep ρ' H' w') (hkp : Keep ρ w w')
    {v' : Value} (hv : VR ρ' v v')
    (hR : ∀ (ρ' : Ren) (v v' : Value) (H' : Heap) (w' : World), Q v H' → Ren.le (ρ.cut S.base) ρ' → Fresh ρ ρ' w → VR ρ' v v' → Rep ρ' H' w' → Keep ρ w w' → R v' w') :
    afterWp P k (topPost P g.fn gs R) .normal (g.a.put dst v') w' := by
  unfold putFr at hs
  cases hd : dstOk S.top.fn.ntmps dst with
  | false => rw [hd] at hs; exact hs.elim
  | true =>
    rw [hd] at hs
    have hs' : MWp P { S with top := { S.top with t := putT S.top.t dst v, k := k }, H := H' } Q := hs
    have := hs' ρ' w' { g with k := k, dst := S.top.dst, a := g.a.put dst v' } gs R hr' ⟨hf.fn, rfl, rfl, (hf.t.mono hle).put hd hv⟩ (FRL.mono hle hfs)
      (fun ρ'' u u' H'' w'' hq h1 h2 h3 h4 h5 => hR ρ'' u u' H'' w'' hq (Ren.le_trans (Ren.cut_le hle _) h1) (Fresh.trans hkp.size hfr h2) h3 h4 (Keep.trans hfr hkp h5))
    exact this

theorem Below.toKeep {w w' : World} (h : Below w.heap.size w w') : Keep ρ w w' := ⟨h.os, h.tape, h.output, h.size, fun k hk _ => h.block k hk⟩
theorem Rep.below {w w' : World} (hr : Rep ρ H w) (h : Below w.heap.size w w') : Rep ρ H w' :=
  ⟨hr.small, fun i b hb => ⟨(hr.dom i b hb).1, Nat.lt_of_lt_of_le (hr.dom i b hb).2 h.size⟩, hr.inj, hr.ltn, fun i o ho hown => by
    obtain ⟨hro, b, o', hb, hw, hor⟩ := hr.obj i o ho hown
    exact ⟨hro, b, o', hb, by rw [h.block b (hr.dom i b hb).2]; exact hw, hor⟩,
   fun i k g n ho => ⟨(hr.arg i k g n ho).1, (hr.arg i k g n ho).2.world (fun b hb => h.block b (hr.dom i b hb).2)⟩⟩

/-- the callee's temporaries -/
theorem trArgs_get : ∀ (vs : List Value) (i : Nat) (t : Tr Value), i + vs.length < big → ∀ j, (trArgs vs i t).get j = if i ≤ j ∧ j < i + vs.length then vs[j - i]? else t.get j
  | [], i, t, h, j => by simp only [trArgs, List.length_nil]; rw [if_neg (by omega)]
  | v :: r, i, t, h, j => by
    simp only [List.length_cons] at h ⊢
    rw [trArgs, trArgs_get r (i + 1) _ (by omega), Tr.get_set _ _ _ (by omega)]
    by_cases h1 : j = i
    · subst h1
      rw [if_neg (by omega), if_pos rfl, if_pos (by omega)]; simp
    · by_cases h2 : i + 1 ≤ j ∧ j < i + 1 + r.length
      · rw [if_pos h2, if_pos (by omega)]
        rw [show j - i = (j - (i + 1)) + 1 by omega]; simp
      · rw [if_neg h2, if_neg h1, if_neg (by omega)]

theorem enter_TR {args args' : List Value} {fn : Func} (ha : VRL ρ args args') (hl : args.length ≤ fn.ntmps) (hn : fn.ntmps < 1000000) :
    TR ρ fn.ntmps (trArgs args 0 .nil) { tmps := (⟨args'⟩ : Array Value) ++ Array.replicate (fn.ntmps - (⟨args'⟩ : Array Value).size) undef, defers := [] } := by
  have hlen := VRL.length ha
  refine ⟨by simp; omega, by unfold big; omega, fun i => ?_, rfl⟩
  rw [trArgs_get args 0 .nil (by unfold big; omega)]
  simp only [Nat.zero_le, true_and, Nat.zero_add, Nat.sub_zero]
  by_cases hi : i < args.length
  · rw [if_pos hi]
    have hg : args[i]? = some args[i] := List.getElem?_eq_getElem hi
    obtain ⟨v', h1, h2⟩ := VRL.get ha i _ hg
    rw [hg]
    have : ((⟨args'⟩ : Array Value) ++ Array.replicate (fn.ntmps - (⟨args'⟩ : Array Value).size) undef).getD i undef = v' := by
      rw [Array.getD_eq_getD_getElem?, Array.getElem?_append_left (by simp; omega)]
      simp [h1]
    rw [this]; exact h2
  · rw [if_neg hi]
    have : ((⟨args'⟩ : Array Value) ++ Array.replicate (fn.ntmps - (⟨args'⟩ : Array Value).size) undef).getD i undef = undef := by
      rw [Array.getD_eq_getD_getElem?, Array.getElem?_append_right (by simp; omega)]
      by_cases h2 : i - (⟨args'⟩ : Array Value).size < fn.ntmps - (⟨args'⟩ : Array Value).size
      · simp only [Array.getElem?_replicate, if_pos h2]; rfl
      · simp only [Array.getElem?_replicate, if_neg h2]; rfl
    rw [this, Tr.get_nil]; exact VR_undef

theorem conSR_sound {S : St} {Q : Value → Heap → Prop} {k : List KI} {dst : Option Tmp} {f : Nat} {args' : List Value}
    {ρ : Ren} {w : World} {g : AF} {gs : List AF} {R : Value → World → Prop} (hr : Rep ρ S.H w) (hf : FR ρ S.top g) (hfs : FRL ρ S.rest gs)
    (hR : ∀ (ρ' : Ren) (v v' : Value) (H' : Heap) (w' : World), Q v H' → Ren.le (ρ.cut S.base) ρ' → Fresh ρ ρ' w → VR ρ' v v' → Rep ρ' H' w' → Keep ρ w w' → R v' w') (alt : SR)
    (halt : alt.sat P Q → Calls P f ⟨args'⟩ w (fun e w' => ∃ v', e = .returned v' ∧ afterWp P k (topPost P g.fn gs R) .normal (g.a.put dst v') w')) :
    ∀ (r : ER), ConGood P f args' w r → (conSR S k dst alt r).sat P Q →
      Calls P f ⟨args'⟩ w (fun e w' => ∃ v', e = .returned v' ∧ afterWp P k (topPost P g.fn gs R) .normal (g.a.put dst v') w')
  | .val v, hg, hs => by
    obtain ⟨hv, hc⟩ := hg
    refine hc.mono ?_
    rintro e w' ⟨rfl, hb⟩
    exact ⟨v, rfl, putFr_sound hs hf hfs (Ren.le_refl _) (Fresh.refl _ _) (hr.below hb) (Below.toKeep hb) (hv ρ) hR⟩
  | .tst b x y, hg, hs => by
    simp only [conSR, SR.sat] at hs
    cases b with
    | true => exact conSR_sound hr hf hfs hR alt halt x (hg.1 rfl) (hs.1 rfl)
    | false => exact conSR_sound hr hf hfs hR alt halt y (hg.2 rfl) (hs.2 rfl)
  | .mem v H, hg, hs => halt hs
  | .skip H, hg, hs => halt hs
  | .call f args, hg, hs => halt hs
  | .no, hg, hs => halt hs

theorem hconSR_sound {S : St} {Q : Value → Heap → Prop} {k : List KI} {dst : Option Tmp} {f : Nat} {args args' : List Value}
    {ρ : Ren} {w : World} {g : AF} {gs : List AF} {R : Value → World → Prop} (ha : VRL ρ args args') (hr : Rep ρ S.H w) (hf : FR ρ S.top g) (hfs : FRL ρ S.rest gs)
    (hR : ∀ (ρ' : Ren) (v v' : Value) (H' : Heap) (w' : World), Q v H' → Ren.le (ρ.cut S.base) ρ' → Fresh ρ ρ' w → VR ρ' v v' → Rep ρ' H' w' → Keep ρ w w' → R v' w') :
    ∀ (r : ER), HGood P f args S.H r → (hconSR S k dst r).sat P Q →
      Calls P f ⟨args'⟩ w (fun e w' => ∃ v', e = .returned v' ∧ afterWp P k (topPost P g.fn gs R) .normal (g.a.put dst v') w')
  | .val v, hg, hs => by
    refine (hg ρ args' w ha hr).mono ?_
    rintro e w' ⟨ρ', u, u', H', rfl, ⟨rfl, rfl⟩, h1, h2, h3, h4, h5⟩
    exact ⟨u', rfl, putFr_sound hs hf hfs h1 h2 h4 h5 h3 hR⟩
  | .mem v H, hg, hs => by
    refine (hg ρ args' w ha hr).mono ?_
    rintro e w' ⟨ρ', u, u', H', rfl, ⟨rfl, rfl⟩, h1, h2, h3, h4, h5⟩
    exact ⟨u', rfl, putFr_sound hs hf hfs h1 h2 h4 h5 h3 hR⟩
  | .tst b x y, hg, hs => by
    simp only [hconSR, SR.sat] at hs
    cases b with
    | true => exact hconSR_sound ha hr hf hfs hR x (hg.1 rfl) (hs.1 rfl)
    | false => exact hconSR_sound ha hr hf hfs hR y (hg.2 rfl) (hs.2 rfl)
  | .skip H, hg, hs => hs.elim
  | .call f args, hg, hs => hs.elim
  | .no, hg, hs => hs.elim

theorem applyER_sound (hC : C.Ok P) {S : St} {Q : Value → Heap → Prop} {all : Array Oper} {l : List Oper} {k : List KI} {o : Oper}
    {ρ : Ren} {w : World} {g : AF} {gs : List AF} {R : Value → World → Prop} (hr : Rep ρ S.H w) (hf : FR ρ S.top g) (hfs : FRL ρ S.rest gs)
    (hR : ∀ (ρ' : Ren) (v v' : Value) (H' : Heap) (w' : World), Q v H' → Ren.le (ρ.cut S.base) ρ' → Fresh ρ ρ' w → VR ρ' v v' → Rep ρ' H' w' → Keep ρ w w' → R v' w') :
    ∀ (r : ER), Next.Good P ρ w ((execOp g.a.eval o).run P w) r → (applyER C S (.ops all l :: k) o.dst r).sat P Q →
      o.wp P g.a w (wpList P all (afterWp P k (topPost P g.fn gs R)) l) (afterWp P k (topPost P g.fn gs R))
  | .val v, hg, hs => by
    obtain ⟨v', hv, hrun⟩ := hg
    unfold Oper.wp; rw [hrun]
    exact putFr_sound hs hf hfs (Ren.le_refl _) (Fresh.refl _ _) hr (Keep.refl _ _) hv hR
  | .mem v H', hg, hs => by
    obtain ⟨ρ', v', w', h1, h2, h3, hrun, h5, h6⟩ := hg
    unfold Oper.wp; rw [hrun]
    exact putFr_sound hs hf hfs h1 h2 h5 h6 h3 hR
  | .skip H', hg, hs => by
    obtain ⟨w', hrun, h5, h6⟩ := hg
    unfold Oper.wp; rw [hrun]
    exact putFr_sound hs hf hfs (Ren.le_refl _) (Fresh.refl _ _) h5 h6 VR_undef hR
  | .call f args, hg, hs => by
    obtain ⟨args', ha, hrun⟩ := hg
    unfold Oper.wp; rw [hrun]
    simp only [applyER] at hs
    simp only [Oper.upon]
    cases ho : C.opq f with
    | true =>
      rw [ho] at hs; simp only [cond_true] at hs
      have hcon := hC.con f args ρ args' w S.H ha hr
      refine (conSR_sound hr hf hfs hR _ (fun h => hconSR_sound ha hr hf hfs hR _ (hC.hcon f S.H args) h) _ hcon hs).mono ?_
      rintro e w' ⟨v', rfl, h⟩
      exact h
    | false =>
      rw [ho] at hs; simp only [cond_false] at hs
      unfold enterFr at hs
      cases hfn : C.fn.get f with
      | none => rw [hfn] at hs; exact hs.elim
      | some fn =>
        rw [hfn] at hs; simp only at hs
        obtain ⟨hp, hbody, _⟩ := hC.fn f fn hfn
        cases hb : fn.body with
        | none => rw [hb] at hs; exact hs.elim
        | some c =>
          rw [hb] at hs; simp only at hs
          cases hcond : (Nat.ble args.length fn.ntmps && (Nat.blt fn.ntmps 1000000 && dstOk S.top.fn.ntmps o.dst)) with
          | false => rw [hcond] at hs; exact hs.elim
          | true =>
            rw [hcond] at hs; simp only [cond_true] at hs
            simp only [Bool.and_eq_true, Nat.blt_eq] at hcond
            have hl := Nat.le_of_ble_eq_true hcond.1
            have hs' : MWp P { top := { fn := fn, t := trArgs args 0 .nil, k := [.code c], dst := none }, rest := { S.top with k := .ops all l :: k, dst := o.dst } :: S.rest, H := S.H, base := S.base } Q := hs
            have hw := hs' ρ w { fn := fn, k := [.code c], dst := none, a := { tmps := (⟨args'⟩ : Array Value) ++ Array.replicate (fn.ntmps - (⟨args'⟩ : Array Value).size) undef, defers := [] } }
              ({ g with k := .ops all l :: k, dst := o.dst } :: gs) R hr ⟨rfl, rfl, rfl, enter_TR ha hl hcond.2.1⟩
              (by simp only [FRL]; exact ⟨{ g with k := .ops all l :: k, dst := o.dst }, gs, ⟨hf.fn, rfl, rfl, hf.t⟩, hfs, rfl⟩) hR
            have hcalls : Calls P f ⟨args'⟩ w (fun e w => ∃ v', e = .returned v' ∧ resumeWp P ({ g with k := .ops all l :: k, dst := o.dst } :: gs) R v' w) := by
              refine calls_of_wp hp hb ?_
              exact hw
            refine hcalls.mono ?_
            rintro e w' ⟨v', rfl, h⟩
            exact h
  | .tst b x y, hg, hs => by
    simp only [applyER, SR.sat] at hs
    cases b with
    | true => exact applyER_sound hC hr hf hfs hR x (hg.1 rfl) (hs.1 rfl)
    | false => exact applyER_sound hC hr hf hfs hR y (hg.2 rfl) (hs.2 rfl)
  | .no, hg, hs => hs.elim

/-! ### guards -/
theorem guard_sound {S : St} {Q : Value → Heap → Prop} {all : Array Oper} {o : Oper} {yes els : SR} {ρ : Ren} {g : AF} (hf : FR ρ S.top g)
    (hs : (guardSR all S.top.t S.top.fn.ntmps o yes els).sat P Q) :
    (Region.wanted o (yielded all g.a.tmps) = true → yes.sat P Q) ∧ (Region.wanted o (yielded all g.a.tmps) = false → els.sat P Q) := by
  unfold guardSR at hs
  unfold Region.wanted
  cases hg : o.guard with
  | none => rw [hg] at hs; exact ⟨fun _ => hs, fun h => by cases h⟩
  | some jw =>
    obtain ⟨j, want⟩ := jw
    rw [hg] at hs; simp only at hs ⊢
    have hj : (all.toList[j]?).bind (·.dst) = (all[j]?).bind (·.dst) := by simp
    rw [hj] at hs
    cases hd : (all[j]?).bind (·.dst) with
    | none =>
      rw [hd] at hs
      have hy : yielded all g.a.tmps j = none := by unfold yielded; rw [hd]; rfl
      rw [hy]
      exact ⟨fun h => (by cases h), fun _ => hs⟩
    | some d =>
      rw [hd] at hs; simp only at hs
      cases hlt : Nat.blt d S.top.fn.ntmps with
      | false => rw [hlt] at hs; exact hs.elim
      | true =>
        rw [hlt] at hs; simp only [cond_true] at hs
        have hlt' : d < g.a.tmps.size := by rw [hf.t.size]; simpa [Nat.blt_eq] using hlt
        have hv := hf.t.val d
        have hget : g.a.tmps[d]? = some (g.a.tmps.getD d undef) := by simp [hlt']
        have hy : yielded all g.a.tmps j = match g.a.tmps.getD d undef with | .bool b => some b | _ => none := by
          unfold yielded; rw [hd]; simp only [Option.bind_some]; rw [hget]; cases g.a.tmps.getD d undef <;> rfl
        rw [hy]
        revert hs hv
        generalize (S.top.t.get d).getD undef = u
        intro hs hv
        cases u with
        | bool b =>
          simp only [VR] at hv
          rw [hv]
          simp only [SR.sat] at hs
          refine ⟨fun h => hs.1 ?_, fun h => hs.2 ?_⟩
          · simpa using h
          · simpa using h
        | tuple xs =>
          obtain ⟨xs⟩ := xs
          simp only [VR] at hv
          obtain ⟨xs', _, e⟩ := hv
          rw [e]
          exact ⟨fun h => (by cases h), fun _ => hs⟩
        | _ => exact hs.elim

theorem stepOps_sound (hC : C.Ok P) {S : St} {Q : Value → Heap → Prop} {all : Array Oper} {l : List Oper} {k : List KI} (hk : S.top.k = .ops all l :: k) (hs : (stepOps C S all l k).sat P Q) : MWp P S Q := by
  cases l with
  | nil =>
    refine MWp.move (S' := { S with top := { S.top with k := k } }) rfl rfl rfl rfl rfl hs ?_
    intro TP a w h; rw [hk]; exact h
  | cons o l =>
    intro ρ w g gs R hr hf hfs hR
    unfold stateWp
    rw [hf.k, hk]
    show wpList P all _ (o :: l) g.a w
    simp only [stepOps] at hs
    have hg := guard_sound hf hs
    unfold wpList
    cases hw : Region.wanted o (yielded all g.a.tmps) with
    | true =>
      rw [if_pos rfl]
      exact .inl (applyER_sound hC hr hf hfs hR _ (evOp_good hC.toOk hr hf.t o) (hg.1 hw))
    | false =>
      rw [if_neg (by simp)]
      exact putFr_sound (hg.2 hw) hf hfs (Ren.le_refl _) (Fresh.refl _ _) hr (Keep.refl _ _) VR_undef hR

/-! ### a region whose order is open -/
mutual
theorem rig_one {ρ : Ren} : ∀ (v : Value), rig v = true → ∀ (x y : Value), VR ρ v x → VR ρ v y → x = y
  | .bool _, _, x, y, h1, h2 => by simp only [VR] at h1 h2; rw [h1, h2]
  | .int _ _, _, x, y, h1, h2 => by simp only [VR] at h1 h2; rw [h1, h2]
  | .string _, _, x, y, h1, h2 => by simp only [VR] at h1 h2; rw [h1, h2]
  | .pointer none, _, x, y, h1, h2 => by simp only [VR] at h1 h2; rw [h1, h2]
  | .pointer (some a), _, x, y, h1, h2 => by
    simp only [VR] at h1 h2
    obtain ⟨b, hb, rfl⟩ := h1
    obtain ⟨c, hc, rfl⟩ := h2
    rw [hb] at hc; obtain rfl := Option.some.inj hc; rfl
  | .slice none _ _, _, x, y, h1, h2 => by simp only [VR] at h1 h2; rw [h1, h2]
  | .slice (some a) n c, h, x, y, h1, h2 => by
    simp only [rig, Bool.and_eq_true, Nat.blt_eq] at h
    have hn : n ≠ 0 := by omega
    have hc : c ≠ capU := fun e => by rw [e] at h; simp [capU] at h
    obtain ⟨b, c1, hb, rfl, _, e1, _⟩ := VR_slice_addr h1 hn
    obtain ⟨b2, c2, hb2, rfl, _, e2, _⟩ := VR_slice_addr h2 hn
    rw [hb] at hb2; obtain rfl := Option.some.inj hb2
    rw [e1 hc, e2 hc]
  | .map none, _, x, y, h1, h2 => by simp only [VR] at h1 h2; rw [h1, h2]
  | .map (some r), _, x, y, h1, h2 => by
    simp only [VR] at h1 h2
    obtain ⟨b, hb, rfl⟩ := h1
    obtain ⟨c, hc, rfl⟩ := h2
    rw [hb] at hc; obtain rfl := Option.some.inj hc; rfl
  | .func fn ⟨xs⟩ ⟨ys⟩, h, x, y, h1, h2 => by
    simp only [rig, Bool.and_eq_true] at h
    simp only [VR] at h1 h2
    obtain ⟨a1, a2, p1, p2, rfl⟩ := h1
    obtain ⟨b1, b2, q1, q2, rfl⟩ := h2
    rw [rigL_one xs h.1 _ _ p1 q1, rigL_one ys h.2 _ _ p2 q2]
  | .nilFunc, _, x, y, h1, h2 => by simp only [VR] at h1 h2; rw [h1, h2]
  | .iface t v, h, x, y, h1, h2 => by
    simp only [rig] at h
    simp only [VR] at h1 h2
    obtain ⟨a1, p1, rfl⟩ := h1
    obtain ⟨b1, q1, rfl⟩ := h2
    rw [rig_one v h _ _ p1 q1]
  | .nilIface, _, x, y, h1, h2 => by simp only [VR] at h1 h2; rw [h1, h2]
  | .agg ⟨xs⟩, h, x, y, h1, h2 => by
    simp only [rig] at h
    simp only [VR] at h1 h2
    obtain ⟨a1, p1, rfl⟩ := h1
    obtain ⟨b1, q1, rfl⟩ := h2
    rw [rigL_one xs h _ _ p1 q1]
  | .tuple ⟨xs⟩, h, x, y, h1, h2 => by
    simp only [rig] at h
    simp only [VR] at h1 h2
    obtain ⟨a1, p1, rfl⟩ := h1
    obtain ⟨b1, q1, rfl⟩ := h2
    rw [rigL_one xs h _ _ p1 q1]
  | .float _ _, h, _, _, _, _ => by simp [rig] at h
  | .complex _ _ _, h, _, _, _, _ => by simp [rig] at h
  | .chan _, h, _, _, _, _ => by simp [rig] at h
theorem rigL_one {ρ : Ren} : ∀ (l : List Value), rigL l = true → ∀ (x y : List Value), VRL ρ l x → VRL ρ l y → x = y
  | [], _, x, y, h1, h2 => by simp only [VRL] at h1 h2; rw [h1, h2]
  | v :: r, h, x, y, h1, h2 => by
    simp only [rigL, Bool.and_eq_true] at h
    simp only [VRL] at h1 h2
    obtain ⟨a1, a2, p1, p2, rfl⟩ := h1
    obtain ⟨b1, b2, q1, q2, rfl⟩ := h2
    rw [rig_one v h.1 _ _ p1 q1, rigL_one r h.2 _ _ p2 q2]
end

theorem conQ_sound {S : St} {Q : Value → Heap → Prop} {k : List KI} {dst : Option Tmp} {f : Nat} {args : List Value} (hC : C.Ok P)
    {ρ : Ren} {w : World} {g : AF} {gs : List AF} {R : Value → World → Prop} (hr : Rep ρ S.H w) (hf : FR ρ S.top g) (hfs : FRL ρ S.rest gs)
    (hR : ∀ (ρ' : Ren) (v v' : Value) (H' : Heap) (w' : World), Q v H' → Ren.le (ρ.cut S.base) ρ' → Fresh ρ ρ' w → VR ρ' v v' → Rep ρ' H' w' → Keep ρ w w' → R v' w') :
    ∀ (r : ER), (∀ w', Below w.heap.size w w' → ∀ args', VRL ρ args args' → ConGood P f args' w' r) → (conSR S k dst .no r).sat P Q →
      ∃ v, (∀ w', Below w.heap.size w w' → ∀ args', VRL ρ args args' → Calls P f ⟨args'⟩ w' (fun e w'' => e = .returned v ∧ Below w'.heap.size w' w'')) ∧ ((∃ args', VRL ρ args args') → afterWp P k (topPost P g.fn gs R) .normal (g.a.put dst v) w)
  | .val v, hg, hs => by
    refine ⟨v, fun w' hw' args' ha => (hg w' hw' args' ha).2, fun ⟨args', ha⟩ => ?_⟩
    exact putFr_sound hs hf hfs (Ren.le_refl _) (Fresh.refl _ _) hr (Keep.refl _ _) ((hg w (Below.refl _ _) args' ha).1 ρ) hR
  | .tst b x y, hg, hs => by
    simp only [conSR, SR.sat] at hs
    cases b with
    | true => exact conQ_sound hC hr hf hfs hR x (fun w' hw' a ha => (hg w' hw' a ha).1 rfl) (hs.1 rfl)
    | false => exact conQ_sound hC hr hf hfs hR y (fun w' hw' a ha => (hg w' hw' a ha).2 rfl) (hs.2 rfl)
  | .mem v H, hg, hs => hs.elim
  | .skip H, hg, hs => hs.elim
  | .call f args, hg, hs => hs.elim
  | .no, hg, hs => hs.elim

theorem applyQ_sound (hC : C.Ok P) {S : St} {Q : Value → Heap → Prop} {all : Array Oper} {n : Nat} {l : List Oper} {k : List KI} {o : Oper}
    {ρ : Ren} {w : World} {g : AF} {gs : List AF} {R : Value → World → Prop} (hr : Rep ρ S.H w) (hf : FR ρ S.top g) (hfs : FRL ρ S.rest gs)
    (hR : ∀ (ρ' : Ren) (v v' : Value) (H' : Heap) (w' : World), Q v H' → Ren.le (ρ.cut S.base) ρ' → Fresh ρ ρ' w → VR ρ' v v' → Rep ρ' H' w' → Keep ρ w w' → R v' w') :
    ∀ (r : ER) (free : Bool), (free = true → UGood ρ (fun W => ∀ k : Nat, k < w.heap.size → W.heap[k]? = w.heap[k]?) (fun W => (execOp g.a.eval o).run P W) r) → (∀ w', Below w.heap.size w w' → Next.Good P ρ w' ((execOp g.a.eval o).run P w') r) → (applyQ C S (.opsQ all n l :: k) o.dst free r).sat P Q →
      o.quiet P g.a (Below w.heap.size w) (wpQuiet P all (Below w.heap.size w) (fun a' => ∀ w', Below w.heap.size w w' → wpList P all (afterWp P k (topPost P g.fn gs R)) (all.toList.drop n) a' w') l)
  | .val v, free, hu, hg, hs => by
    simp only [applyQ] at hs
    cases hfr : free with
    | true =>
      rw [hfr] at hs; simp only [Bool.true_or, cond_true] at hs
      obtain ⟨v', hv, hrun⟩ := hu hfr
      refine ⟨v', fun w' hw' => ?_, putFr_sound hs hf hfs (Ren.le_refl _) (Fresh.refl _ _) hr (Keep.refl _ _) hv hR⟩
      unfold Oper.quietAt
      have h1 : (execOp g.a.eval o).run P w' = .ok (.value v') w' := hrun w' (fun k hk => hw'.block k hk)
      rw [h1]
      exact ⟨rfl, rfl⟩
    | false =>
    rw [hfr] at hs; simp only [Bool.false_or] at hs
    cases hrig : rig v with
    | false => rw [hrig] at hs; exact hs.elim
    | true =>
      rw [hrig] at hs; simp only [cond_true] at hs
      obtain ⟨v', hv, hrun⟩ := hg w (Below.refl _ _)
      refine ⟨v', fun w' hw' => ?_, putFr_sound hs hf hfs (Ren.le_refl _) (Fresh.refl _ _) hr (Keep.refl _ _) hv hR⟩
      obtain ⟨v'', hv2, hrun2⟩ := hg w' hw'
      unfold Oper.quietAt
      rw [hrun2]
      exact ⟨rfl, (rig_one v hrig _ _ hv2 hv)⟩
  | .call f args, free, hu, hg, hs => by
    simp only [applyQ] at hs
    cases ho : C.opq f with
    | false => rw [ho] at hs; exact hs.elim
    | true =>
      rw [ho] at hs; simp only [cond_true] at hs
      obtain ⟨v, h1, h2⟩ := conQ_sound hC hr hf hfs hR _ (fun w' hw' args' ha => hC.con f args ρ args' w' S.H ha (hr.below hw')) hs
      obtain ⟨a0, ha0, _⟩ := hg w (Below.refl _ _)
      refine ⟨v, fun w' hw' => ?_, h2 ⟨a0, ha0⟩⟩
      obtain ⟨args', ha, hrun⟩ := hg w' hw'
      unfold Oper.quietAt
      rw [hrun]
      refine ⟨rfl, (h1 w' hw' args' ha).mono ?_⟩
      rintro e w'' ⟨rfl, hb⟩
      exact ⟨rfl, hw'.trans (hb.mono hw'.size)⟩
  | .tst b x y, free, hu, hg, hs => by
    simp only [applyQ, SR.sat] at hs
    cases b with
    | true => exact applyQ_sound hC hr hf hfs hR x free (fun e => (hu e).1 rfl) (fun w' hw' => (hg w' hw').1 rfl) (hs.1 rfl)
    | false => exact applyQ_sound hC hr hf hfs hR y free (fun e => (hu e).2 rfl) (fun w' hw' => (hg w' hw').2 rfl) (hs.2 rfl)
  | .mem v H', free, hu, hg, hs => hs.elim
  | .skip H', free, hu, hg, hs => hs.elim
  | .no, free, hu, hg, hs => hs.elim

theorem stepOpsQ_sound (hC : C.Ok P) {S : St} {Q : Value → Heap → Prop} {all : Array Oper} {n : Nat} {l : List Oper} {k : List KI} (hk : S.top.k = .opsQ all n l :: k) (hs : (stepOpsQ C S all n l k).sat P Q) : MWp P S Q := by
  intro ρ w g gs R hr hf hfs hR
  unfold stateWp
  rw [hf.k, hk]
  cases l with
  | nil =>
    show ∀ w', Below w.heap.size w w' → _
    intro w' hw'
    have hs' : MWp P { S with top := { S.top with k := .ops all (all.toList.drop n) :: k } } Q := hs
    exact hs' ρ w' { g with k := .ops all (all.toList.drop n) :: k } gs R (hr.below hw') ⟨hf.fn, rfl, hf.dst, hf.t⟩ hfs
      (fun ρ'' u u' H'' w'' hq h1 h2 h3 h4 h5 => hR ρ'' u u' H'' w'' hq h1 (Fresh.trans hw'.size (Fresh.refl _ _) h2) h3 h4 (Keep.trans (Fresh.refl _ _) (Below.toKeep hw') h5))
  | cons o l =>
    simp only [stepOpsQ] at hs
    have hg := guard_sound hf hs
    show wpQuiet P all _ _ (o :: l) g.a
    unfold wpQuiet
    cases hw : Region.wanted o (yielded all g.a.tmps) with
    | true =>
      rw [if_pos rfl]
      exact applyQ_sound hC hr hf hfs hR _ _ (fun e => evOp_free hC.toOk hr hf.t o e) (fun w' hw' => evOp_good hC.toOk (hr.below hw') hf.t o) (hg.1 hw)
    | false =>
      rw [if_neg (by simp)]
      exact putFr_sound (hg.2 hw) hf hfs (Ren.le_refl _) (Fresh.refl _ _) hr (Keep.refl _ _) VR_undef hR

theorem enterQ_sound (hC : C.Ok P) {S : St} {Q : Value → Heap → Prop} {id : Nat} {ops : Array Oper} {k : List KI} (hk : S.top.k = .code (.region id ops true) :: k) (hs : (enterQ C S ops k).sat P Q) : MWp P S Q := by
  intro ρ w g gs R hr hf hfs hR
  unfold stateWp
  rw [hf.k, hk]
  show (Code.region id ops true).wp P _ g.a w
  have hR' : ∀ (ρ' : Ren) (v v' : Value) (H' : Heap) (w' : World), Q v H' → Ren.le (ρ.cut S.base) ρ' → Fresh ρ ρ' w.drew → VR ρ' v v' → Rep ρ' H' w' → Keep ρ w.drew w' → R v' w' :=
    fun ρ'' u u' H'' w'' hq h1 h2 h3 h4 h5 => hR ρ'' u u' H'' w'' hq h1 h2 h3 h4 (Keep.trans (Fresh.refl _ _) (Keep.drew _ _) h5)
  unfold enterQ at hs
  cases hn : Nat.beq (quietN C ops.toList) ops.size with
  | true =>
    rw [hn] at hs; simp only [cond_true] at hs
    cases hB : Region.lexB .any ops with
    | false => rw [hB] at hs; exact hs.elim
    | true =>
      rw [hB] at hs; simp only [cond_true] at hs
      have hs' : MWp P { S with top := { S.top with k := .opsQ ops ops.size ops.toList :: k } } Q := hs
      have := hs' ρ w.drew { g with k := .opsQ ops ops.size ops.toList :: k } gs R hr.drew ⟨hf.fn, rfl, hf.dst, hf.t⟩ hfs hR'
      refine wp_region_quiet (C := Below w.drew.heap.size w.drew) hC.fol hB (Below.refl _ _) ?_
      have h2 : wpQuiet P ops (Below w.drew.heap.size w.drew) (fun a' => ∀ w', Below w.drew.heap.size w.drew w' → wpList P ops (afterWp P k (topPost P g.fn gs R)) (ops.toList.drop ops.size) a' w') ops.toList g.a := this
      have e : ops.toList.drop ops.size = [] := by simp
      rw [e] at h2
      exact h2
  | false =>
    rw [hn] at hs; simp only [cond_false] at hs
    cases hB : Region.lexTailB .any ops (quietN C ops.toList) with
    | false => rw [hB] at hs; exact hs.elim
    | true =>
      rw [hB] at hs; simp only [cond_true] at hs
      have hs' : MWp P { S with top := { S.top with k := .opsQ ops (quietN C ops.toList) (ops.toList.take (quietN C ops.toList)) :: k } } Q := hs
      have := hs' ρ w.drew { g with k := .opsQ ops (quietN C ops.toList) (ops.toList.take (quietN C ops.toList)) :: k } gs R hr.drew ⟨hf.fn, rfl, hf.dst, hf.t⟩ hfs hR'
      exact region_quiet_tail (CW := Below w.drew.heap.size w.drew) _ hC.fol hB (Below.refl _ _) this

/-! ### returns -/
theorem run_res (hE : C.toEnv.Ok P) (hr : Rep ρ H w) {n : Nat} {t : Tr Value} {a : Act} (ht : TR ρ n t a) : ∀ (rs : List ResultVar) (l : List Value), evRes C.toEnv H t rs = some l →
    ∃ l', VRL ρ l l' ∧ (rs.mapM fun | .tmp t => pure (a.tmps.getD t undef) | .cell q t => do loadVar t (← asAddr (a.tmps.getD q undef)) : Sem (List Value)).run P w = .ok l' w
  | [], l, h => by simp only [evRes, Option.some.injEq] at h; subst h; exact ⟨[], by simp [VRL], by simp⟩
  | .tmp i :: rs, l, h => by
    simp only [evRes] at h
    cases h2 : evRes C.toEnv H t rs with
    | none => rw [h2] at h; simp at h
    | some r =>
      rw [h2] at h; simp only [Option.some.injEq] at h; subst h
      obtain ⟨l', h3, h4⟩ := run_res hE hr ht rs r h2
      refine ⟨a.tmps.getD i undef :: l', by simp only [VRL]; exact ⟨_, _, ht.val i, h3, rfl⟩, ?_⟩
      simp only [List.mapM_cons, Sem.run_bind, Sem.run_pure, Result.andThen_ok, h4]
  | .cell i ty :: rs, l, h => by
    simp only [evRes] at h
    cases h1 : evLoad C.toEnv H ty ((t.get i).getD undef) with
    | val v =>
      cases h2 : evRes C.toEnv H t rs with
      | none => rw [h1, h2] at h; simp at h
      | some r =>
        rw [h1, h2] at h; simp only [Option.some.injEq] at h; subst h
        obtain ⟨l', h3, h4⟩ := run_res hE hr ht rs r h2
        have hg := evLoad_good hE hr ty (ht.val i)
        rw [h1] at hg
        obtain ⟨v', hv, hrun⟩ := hg
        have hp : ∃ q, a.tmps.getD i undef = .pointer (some q) := by
          have hv := ht.val i
          unfold evLoad at h1
          split at h1
          · rename_i e; rw [e] at hv; simp only [VR] at hv; obtain ⟨b, _, e2⟩ := hv; exact ⟨_, e2⟩
          · cases h1
        obtain ⟨q, hq⟩ := hp
        rw [hq] at hrun
        have hrun' : (loadVar ty q).run P w = .ok v' w := by
          simp only [valued, Instr.loadAt, Instr.sureAddr, Sem.run_bind, Sem.run_pure, Result.andThen_ok] at hrun
          cases hl : (loadVar ty q).run P w with
          | ok x w' => rw [hl] at hrun; simp only [Result.andThen_ok] at hrun; injection hrun with e1 e2; injection e1 with e1; rw [e1, e2]
          | halt x w' => rw [hl] at hrun; cases hrun
        refine ⟨v' :: l', by simp only [VRL]; exact ⟨_, _, hv, h3, rfl⟩, ?_⟩
        have e : (do loadVar ty (← asAddr (a.tmps.getD i undef)) : Sem Value).run P w = .ok v' w := by rw [hq]; simp [asAddr, hrun']
        rw [List.mapM_cons]
        simp only [Sem.run_bind] at e ⊢
        rw [e]
        simp only [Result.andThen_ok, h4, Sem.run_pure]
    | _ => rw [h1] at h; simp at h

theorem one_or_all {l l' : List Value} (h : VRL ρ l l') : VR ρ (oneOrAll l) (if h : (⟨l'⟩ : Array Value).size = 1 then (⟨l'⟩ : Array Value)[0] else .tuple ⟨l'⟩) := by
  cases l with
  | nil => simp only [VRL] at h; subst h; simp [oneOrAll, VR, VRL]
  | cons v r =>
    cases r with
    | nil => simp only [VRL] at h; obtain ⟨v', r', h1, rfl, rfl⟩ := h; simpa [oneOrAll] using h1
    | cons u r =>
      have h0 := h
      simp only [VRL] at h; obtain ⟨v', r', h1, ⟨u', r'', h2, h3, rfl⟩, rfl⟩ := h
      simp only [oneOrAll]
      rw [dif_neg (by simp)]
      simp only [VR]
      exact ⟨_, h0, rfl⟩

theorem stepRet_sound (hC : C.Ok P) {S : St} {Q : Value → Heap → Prop} (hs : (stepRet C S).sat P Q) {ρ : Ren} {w : World} {g : AF} {gs : List AF} {R : Value → World → Prop}
    (hr : Rep ρ S.H w) (hf : FR ρ S.top g) (hfs : FRL ρ S.rest gs)
    (hR : ∀ (ρ' : Ren) (v v' : Value) (H' : Heap) (w' : World), Q v H' → Ren.le (ρ.cut S.base) ρ' → Fresh ρ ρ' w → VR ρ' v v' → Rep ρ' H' w' → Keep ρ w w' → R v' w') :
    topPost P g.fn gs R .ret g.a w ∧ topPost P g.fn gs R .normal g.a w := by
  unfold stepRet at hs
  cases hl : evRes C.toEnv S.H S.top.t S.top.fn.results.toList with
  | none => rw [hl] at hs; exact hs.elim
  | some l =>
    rw [hl] at hs; simp only at hs
    obtain ⟨l', h1, h2⟩ := run_res hC.toOk hr hf.t _ l hl
    have hres : (results g.fn g.a.tmps).run P w = .ok (if h : (⟨l'⟩ : Array Value).size = 1 then (⟨l'⟩ : Array Value)[0] else .tuple ⟨l'⟩) w := by
      unfold results
      rw [hf.fn]
      simp only [Sem.run_bind]
      rw [Array.mapM_eq_mapM_toList]
      have hb : ∀ (x : Sem (List Value)), x.run P w = .ok l' w → (List.toArray <$> x).run P w = .ok ⟨l'⟩ w := by
        intro x hx
        show (x >>= (Sem.pure ∘ List.toArray)).run P w = _
        rw [Sem.run_bind, hx]; rfl
      exact congrArg (fun r : Result (Array Value) => r.andThen fun vs w' => Sem.run P (pure (if h : vs.size = 1 then vs[0] else Value.tuple vs) : Sem Value) w') (hb _ h2)
    have hv := one_or_all h1
    have hfin : resumeWp P gs R (if h : (⟨l'⟩ : Array Value).size = 1 then (⟨l'⟩ : Array Value)[0] else .tuple ⟨l'⟩) w := by
      cases hrest : S.rest with
      | nil =>
        rw [hrest] at hs hfs
        simp only [FRL] at hfs; subst hfs
        exact hR ρ _ _ S.H w hs (Ren.le_cut _ _) (Fresh.refl _ _) hv hr (Keep.refl _ _)
      | cons f r =>
        rw [hrest] at hs hfs
        simp only [FRL] at hfs
        obtain ⟨g2, r2, hg2, hr2, rfl⟩ := hfs
        simp only at hs
        cases hd : dstOk f.fn.ntmps f.dst with
        | false => rw [hd] at hs; exact hs.elim
        | true =>
          rw [hd] at hs
          have hs' : MWp P { top := { f with t := putT f.t f.dst (oneOrAll l) }, rest := r, H := S.H, base := S.base } Q := hs
          have := hs' ρ w { g2 with a := g2.a.put g2.dst (if h : (⟨l'⟩ : Array Value).size = 1 then (⟨l'⟩ : Array Value)[0] else .tuple ⟨l'⟩) } r2 R hr
            ⟨hg2.fn, hg2.k, hg2.dst, by rw [hg2.dst]; exact hg2.t.put hd hv⟩ hr2 hR
          exact this
    exact ⟨⟨hf.t.defers, _, hres, _, rfl, hfin⟩, ⟨hf.t.defers, _, hres, _, rfl, hfin⟩⟩

theorem step_sound (hC : C.Ok P) {S : St} {Q : Value → Heap → Prop} (hs : (step C S).sat P Q) : MWp P S Q := by
  unfold step at hs
  split at hs
  · rename_i hk
    intro ρ w g gs R hr hf hfs hR
    unfold stateWp
    rw [hf.k, hk]
    exact (stepRet_sound hC hs hr hf hfs hR).2
  · rename_i c k hk
    unfold stepCode at hs
    split at hs
    · refine MWp.move (S' := { S with top := { S.top with k := k } }) rfl rfl rfl rfl rfl hs ?_
      intro TP a w h; rw [hk]; exact wp_skip h
    · refine MWp.move (S' := { S with top := { S.top with k := k } }) rfl rfl rfl rfl rfl hs ?_
      intro TP a w h; rw [hk]; exact wp_label h
    · rename_i x y
      refine MWp.move (S' := { S with top := { S.top with k := .code x :: .code y :: k } }) rfl rfl rfl rfl rfl hs ?_
      intro TP a w h; rw [hk]
      exact wp_seq (wp_mono h (then_after (fun _ e => by cases e) _ (fun _ _ h => h)))
    · rename_i x a b
      split at hs
      · rename_i q hx
        simp only [SR.sat] at hs
        intro ρ w g gs R hr hf hfs hR
        unfold stateWp
        rw [hf.k, hk]
        have hv := evx_VR hf.t hx
        simp only [VR] at hv
        show (Code.cond x a b).wp P _ g.a w
        refine wp_cond_split hv (fun e => ?_) (fun e => ?_)
        · have h1 : MWp P { S with top := { S.top with k := .code a :: k } } Q := hs.1 e
          exact h1 ρ w { g with k := .code a :: k } gs R hr ⟨hf.fn, rfl, hf.dst, hf.t⟩ hfs hR
        · have h1 : MWp P { S with top := { S.top with k := .code b :: k } } Q := hs.2 e
          exact h1 ρ w { g with k := .code b :: k } gs R hr ⟨hf.fn, rfl, hf.dst, hf.t⟩ hfs hR
      · exact hs.elim
    · rename_i id a
      refine MWp.move (S' := { S with top := { S.top with k := .code a :: .inBlock id :: k } }) rfl rfl rfl rfl rfl hs ?_
      intro TP a w h; rw [hk]
      exact wp_block (wp_mono h block_after)
    · rename_i a
      refine MWp.move (S' := { S with top := { S.top with k := .code a :: .inLoop a :: k } }) rfl rfl rfl rfl rfl hs ?_
      intro TP a w h; rw [hk]
      exact loop_of (wp_mono h (then_after (fun _ e => by cases e) _ (fun _ _ h => h)))
    · rename_i id
      split at hs
      · rename_i k' hx
        refine MWp.move (S' := { S with top := { S.top with k := k' } }) rfl rfl rfl rfl rfl hs ?_
        intro TP a w h; rw [hk]
        exact wp_exit (afterWp_exit k hx h)
      · exact hs.elim
    · intro ρ w g gs R hr hf hfs hR
      unfold stateWp
      rw [hf.k, hk]
      exact wp_ret (afterWp_ret k (stepRet_sound hC hs hr hf hfs hR).1)
    · rename_i id ops
      refine MWp.move (S' := { S with top := { S.top with k := .ops ops ops.toList :: k } }) rfl rfl rfl rfl rfl hs ?_
      intro TP a w h; rw [hk]
      exact wp_region_list h
    · exact enterQ_sound hC hk hs
    · exact hs.elim
  · rename_i id k hk
    refine MWp.move (S' := { S with top := { S.top with k := k } }) rfl rfl rfl rfl rfl hs ?_
    intro TP a w h; rw [hk]; exact h
  · rename_i c k hk
    refine MWp.move (S' := { S with top := { S.top with k := .code c :: .inLoop c :: k } }) rfl rfl rfl rfl rfl hs ?_
    intro TP a w h; rw [hk]
    exact loopWp_of (wp_mono h (then_after (fun _ e => by cases e) _ (fun _ _ h => h)))
  · rename_i all l k hk
    exact stepOps_sound hC hk hs
  · rename_i all n l k hk
    exact stepOpsQ_sound hC hk hs
end
end Go.Ly
