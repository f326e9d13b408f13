/- Part 6 of the texts that the law needs, laid together. By program (pack.py). -/
import Derived.Test.YtnknopebjdgdjaaPfc
set_option linter.unusedVariables false
set_option linter.unusedSimpArgs false
noncomputable section
namespace Go.Ly
open Go.RowKit
section
variable {P : Program} {E : Env} {Q Q' : Value → Heap → Prop}
def guardB (all : Array Oper) (t : Tr Value) (n : Nat) (o : Oper) : Bool :=
  match guardSR all t n o (.done undef H0) .stop with
  | .done _ _ => true
  | _ => false
theorem guardB_wanted (P : Program) {ρ : Ren} {S : St} {g : AF} {all : Array Oper} {o : Oper} (hf : FR ρ S.top g) (h : guardB all S.top.t S.top.fn.ntmps o = true) : Region.wanted o (yielded all g.a.tmps) = true := by
  have hs : (guardSR all S.top.t S.top.fn.ntmps o (.done undef H0) .stop).sat P (fun _ _ => True) := by
    unfold guardB at h
    unfold guardSR at h ⊢
    cases hg : o.guard with
    | none => exact trivial
    | some jw =>
      obtain ⟨j, want⟩ := jw
      rw [hg] at h; simp only at h ⊢
      cases hd : (all.toList[j]?).bind (·.dst) with
      | none => rw [hd] at h; cases h
      | some d =>
        rw [hd] at h; simp only at h ⊢
        cases hb : Nat.blt d S.top.fn.ntmps with
        | false => rw [hb] at h; cases h
        | true =>
          rw [hb] at h; simp only [cond_true] at h ⊢
          revert h
          generalize (S.top.t.get d).getD undef = u
          intro h
          cases u with
          | bool b =>
            have h : (match (bif b == want then SR.done undef H0 else SR.stop) with | .done _ _ => true | _ => false) = true := h
            show (bif b == want then SR.done undef H0 else SR.stop).sat P (fun _ _ => True)
            cases hbw : (b == want) with
            | true => rw [cond_true]; exact trivial
            | false => rw [hbw, cond_false] at h; cases h
          | _ => cases h
  have := guard_sound (P := P) hf hs
  cases hw : Region.wanted o (yielded all g.a.tmps) with
  | true => rfl
  | false => exact (this.2 hw).elim
def callOf (E : Env) (S : St) : Option (Nat × List Value) :=
  match S.top.k with
  | .ops all (o :: l) :: k =>
    bif guardB all S.top.t S.top.fn.ntmps o && dstOk S.top.fn.ntmps o.dst then
      (match evOp E S.H S.top.t o with
      | .call f args => some (f, args)
      | _ => none)
    else none
  | _ => none
def behind (S : St) (v : Value) (H' : Heap) : St :=
  match S.top.k with
  | .ops all (o :: l) :: k => { S with top := { S.top with t := putT S.top.t o.dst v, k := .ops all l :: k }, H := H' }
  | _ => S
theorem MWp.call (hE : E.Ok P) {S : St} {f : Nat} {args : List Value} (h : callOf E S = some (f, args)) (hL : LCalls P f args S.H Q') (hs : ∀ v H', Q' v H' → MWp P (behind S v H') Q) : MWp P S Q := by
  unfold callOf at h
  split at h
  · rename_i all o l k hk
    cases hc : (guardB all S.top.t S.top.fn.ntmps o && dstOk S.top.fn.ntmps o.dst) with
    | false => rw [hc] at h; cases h
    | true =>
      rw [hc] at h; simp only [cond_true] at h
      simp only [Bool.and_eq_true] at hc
      intro ρ w g gs R hr hf hfs hR
      unfold stateWp
      rw [hf.k, hk]
      show wpList P all _ (o :: l) g.a w
      unfold wpList
      rw [guardB_wanted P hf hc.1, if_pos rfl]
      left
      have hgood := evOp_good hE hr hf.t o
      cases he : evOp E S.H S.top.t o with
      | call f' args0 =>
        rw [he] at h hgood
        simp only [Option.some.injEq, Prod.mk.injEq] at h
        obtain ⟨rfl, rfl⟩ := h
        obtain ⟨args', ha, hrun⟩ := hgood
        unfold Oper.wp; rw [hrun]
        simp only [Oper.upon]
        have hcalls : Calls P f' ⟨args'⟩ w (fun e w' => ∃ v', e = .returned v' ∧ afterWp P (.ops all l :: k) (topPost P g.fn gs R) .normal (g.a.put o.dst v') w') := by
          refine (hL ρ args' w ha hr).mono ?_
          rintro e w' ⟨ρ', u, u', H', rfl, hq, h1, h2, h3, h4, h5⟩
          refine ⟨u', rfl, putFr_sound (S := S) (Q := Q) (v := u) (H' := H') (k := .ops all l :: k) (dst := o.dst) ?_ hf hfs h1 h2 h4 h5 h3 hR⟩
          unfold putFr
          rw [hc.2]
          have := hs u H' hq
          unfold behind at this
          rw [hk] at this
          exact this
        refine hcalls.mono ?_
        rintro e w' ⟨v', rfl, h⟩
        exact h
      | _ => rw [he] at h; cases h
  · cases h
def Ends (P : Program) (f : FuncId) (args : List Value) (os : List (Option LO)) (I : List Nat) (v : Value) (nx : Nat) (os' : List (Option LO)) : Prop := LCalls P f args (mkH os) (fun u K => u = v ∧ K.next = nx ∧ I.map K.get = os' ∧ K.lock = 0)
def setAll : List (Nat × Option LO) → Tr LO → Tr LO
  | [], t => t
  | (b, o) :: r, t => (setAll r t).set b o
theorem setAll_get (G : Nat → Option LO) : ∀ (I : List Nat) (t : Tr LO), (∀ b ∈ I, b < big) → ∀ b, (setAll (I.map fun b => (b, G b)) t).get b = if b ∈ I then G b else t.get b
  | [], t, _, b => by simp [setAll]
  | x :: r, t, h, b => by
    simp only [List.map_cons, setAll]
    rw [Tr.get_set _ _ _ (h x (by simp)), setAll_get G r t (fun b hb => h b (by simp [hb]))]
    by_cases e : b = x
    · subst e; simp
    · simp [e]
def vH (I : List Nat) (os' : List (Option LO)) (nx : Nat) : Heap := { m := setAll (I.zip os') .nil, next := nx }
theorem zip_map {G : Nat → Option LO} : ∀ (I : List Nat), I.zip (I.map G) = I.map fun b => (b, G b)
  | [] => rfl
  | x :: r => by simp [zip_map r]
theorem behind_H {S : St} {v : Value} {H : Heap} (h : (callOf E S).isSome = true) : (behind S v H).H = H := by
  unfold callOf at h
  split at h
  · rename_i all o l k hk
    unfold behind; rw [hk]
  · cases h
def findT (τ : Nat → Nat) (k : Nat) : List (Nat × Option LO) → Option (Option LO)
  | [] => none
  | (i, o) :: r => bif Nat.beq (τ i) k then some o else findT τ k r
def outOf (s : List Nat) (bg : List (Option LO)) (I : List Nat) (os' : List (Option LO)) (J : List Nat) : List (Option LO) :=
  J.map fun k => match findT (tau s bg.length) k (I.zip os') with
    | some o => o.map (renO (tau s bg.length))
    | none => (bg[k]?).getD none
def frameB (s : List Nat) (os bg : List (Option LO)) (I J : List Nat) (nx : Nat) : Bool := Nat.beq s.length os.length && (nodupB s && (os.all Option.isSome && (s.all (fun k => Nat.blt k bg.length) && (Nat.ble os.length nx && (Nat.blt (bg.length + nx) 2147483000 && (I.all (fun i => Nat.blt i nx) && J.all (fun k => I.any (fun i => Nat.beq (tau s bg.length i) k) || (Nat.blt k bg.length && !(memB s k)))))))))
theorem findT_some {τ : Nat → Nat} {k : Nat} {G : Nat → Option LO} : ∀ {I : List Nat} {o : Option LO}, findT τ k (I.map fun b => (b, G b)) = some o → ∃ i ∈ I, τ i = k ∧ G i = o
  | [], o, h => by cases h
  | x :: r, o, h => by
    simp only [List.map_cons, findT] at h
    cases hb : Nat.beq (τ x) k with
    | true => rw [hb] at h; simp at h; exact ⟨x, by simp, Nat.eq_of_beq_eq_true hb, h⟩
    | false =>
      rw [hb] at h
      obtain ⟨i, h1, h2⟩ := findT_some (I := r) h
      exact ⟨i, by simp [h1], h2⟩
theorem findT_none {τ : Nat → Nat} {k : Nat} {G : Nat → Option LO} : ∀ {I : List Nat}, findT τ k (I.map fun b => (b, G b)) = none → ∀ i ∈ I, τ i ≠ k
  | [], h, i, hi => by cases hi
  | x :: r, h, i, hi => by
    simp only [List.map_cons, findT] at h
    cases hb : Nat.beq (τ x) k with
    | true => rw [hb] at h; cases h
    | false =>
      rw [hb] at h
      rcases List.mem_cons.1 hi with rfl | hi
      · exact Nat.ne_of_beq_eq_false hb
      · exact findT_none (I := r) h i hi
theorem Ends.frame {f : FuncId} {args : List Value} {os : List (Option LO)} {I : List Nat} {v : Value} {nx : Nat} {os' : List (Option LO)} (s : List Nat) (bg : List (Option LO)) (J : List Nat) (h : Ends P f args os I v nx os')
    (hB : frameB s os bg I J nx = true) (hl : s.map (fun k => (bg[k]?).getD none) = os.map (Option.map (renO (tau s bg.length)))) :
    Ends P f (renL (tau s bg.length) args) bg J (renV (tau s bg.length) v) (bg.length + (nx - os.length)) (outOf s bg I os' J) := by
  simp only [frameB, Bool.and_eq_true] at hB
  obtain ⟨b1, b2, b3, b4, b5, b6, b7, b8⟩ := hB
  have hsl : s.length = os.length := Nat.eq_of_beq_eq_true b1
  have hnd := nodupB_iff s b2
  have h5 := Nat.le_of_ble_eq_true b5
  have h6 : bg.length + nx < big := by simpa [Nat.blt_eq, big] using b6
  have hlen : os.length < big := by omega
  have hlb : bg.length < big := by omega
  have hsg : ∀ i, (hi : i < s.length) → sg s i = s[i] := fun i hi => by unfold sg; rw [List.getD_eq_getElem?_getD, List.getElem?_eq_getElem hi]; rfl
  have hslt : ∀ i, i < s.length → sg s i < bg.length := fun i hi => by
    rw [hsg i hi]; have := List.all_eq_true.1 b4 _ (List.getElem_mem hi); simpa [Nat.blt_eq] using this
  have hinj : ∀ i j, i < s.length → j < s.length → sg s i = sg s j → i = j := fun i j hi hj e => by
    rw [hsg i hi, hsg j hj] at e; exact (List.getElem_inj hnd).1 e
  have hτ : tau s bg.length = ext (sg s) (mkH os).next (mkH bg).next := by unfold tau; rw [hsl]; rfl
  have tlt : ∀ i, i < s.length → tau s bg.length i = sg s i := fun i hi => by unfold tau; exact ext_lt hi
  have tge : ∀ i, s.length ≤ i → tau s bg.length i = bg.length + (i - s.length) := fun i hi => by unfold tau; exact ext_ge hi
  have tinj : ∀ i j, tau s bg.length i = tau s bg.length j → i = j := by
    intro i j e
    rcases Nat.lt_or_ge i s.length with hi | hi <;> rcases Nat.lt_or_ge j s.length with hj | hj
    · rw [tlt i hi, tlt j hj] at e; exact hinj i j hi hj e
    · rw [tlt i hi, tge j hj] at e; have := hslt i hi; omega
    · rw [tge i hi, tlt j hj] at e; have := hslt j hj; omega
    · rw [tge i hi, tge j hj] at e; omega
  have hosget : ∀ i o, (mkH os).get i = some o → os[i]? = some (some o) ∧ i < os.length := by
    intro i o ho
    rw [mkH_get _ hlen] at ho
    cases hi : os[i]? with
    | none => rw [hi] at ho; cases ho
    | some x => rw [hi] at ho; simp at ho; subst ho; exact ⟨rfl, (List.getElem?_eq_some_iff.1 hi).1⟩
  have hfit : Fits (sg s) (mkH os) (mkH bg) := by
    refine ⟨by simpa [mkH] using hlen, rfl, fun i hi => ?_, fun i o ho => (hosget i o ho).2, fun i o ho => ?_, fun i j hi hj e => ?_⟩
    · have hi' : i < os.length := hi
      have hx := List.all_eq_true.1 b3 _ (List.getElem_mem hi')
      obtain ⟨o, ho⟩ := Option.isSome_iff_exists.1 hx
      exact ⟨o, by rw [mkH_get _ hlen, List.getElem?_eq_getElem hi', ho]; rfl⟩
    · obtain ⟨h1, h2⟩ := hosget i o ho
      have h3 := congrArg (fun l => l[i]?) hl
      simp only [List.getElem?_map, h1, Option.map_some, List.getElem?_eq_getElem (show i < s.length by omega), Option.some.injEq] at h3
      rw [mkH_get _ hlb, hsg i (by omega), ← hτ]
      exact h3
    · have hi' : i < os.length := hi
      have hj' : j < os.length := hj
      exact hinj i j (by omega) (by omega) e
  unfold Ends
  rw [hτ]
  refine LCalls.frame h hfit ?_
  rintro vs K ⟨rfl, hn, hK, hlk⟩
  subst hK
  have hin : ∀ i ∈ I, i < nx := fun i hi => by have := List.all_eq_true.1 b7 i hi; simpa [Nat.blt_eq] using this
  let F : Nat → Option LO := fun k => match findT (tau s bg.length) k ((List.range nx).map fun i => (i, K.get i)) with
    | some o => o.map (renO (tau s bg.length))
    | none => (bg[k]?).getD none
  have hFget : ∀ k, (mkH ((List.range (bg.length + (nx - os.length))).map F)).get k = if k < bg.length + (nx - os.length) then F k else none := by
    intro k
    rw [mkH_get _ (by simp; omega)]
    by_cases hk : k < bg.length + (nx - os.length)
    · rw [if_pos hk, List.getElem?_map, List.getElem?_range hk]; rfl
    · rw [if_neg hk, List.getElem?_eq_none (by simp; omega)]; rfl
  refine ⟨mkH ((List.range (bg.length + (nx - os.length))).map F), ⟨hlk, by show os.length ≤ K.next; omega, ?_, ?_, ?_⟩, rfl, by simp [mkH], ?_, rfl⟩
  · show bg.length + (K.next - os.length) ≤ ((List.range (bg.length + (nx - os.length))).map F).length
    simp; omega
  · show ((List.range (bg.length + (nx - os.length))).map F).length < big
    simp; omega
  · intro k o ho
    rw [hFget] at ho
    split at ho
    · simp only [F] at ho
      cases hf : findT (tau s bg.length) k ((List.range nx).map fun i => (i, K.get i)) with
      | some x =>
        rw [hf] at ho
        obtain ⟨i, h1, h2, h3⟩ := findT_some hf
        rw [← h3] at ho
        simp only [Option.map_eq_some_iff] at ho
        obtain ⟨os1, h4, h5⟩ := ho
        exact .inl ⟨i, os1, by rw [← hτ]; exact h2, h4, by rw [← hτ]; exact h5.symm⟩
      | none =>
        rw [hf] at ho
        refine .inr ⟨fun i hi e => ?_, by rw [mkH_get _ hlb]; exact ho⟩
        have hi' : i < os.length := hi
        exact findT_none hf i (List.mem_range.2 (by omega)) (by rw [tlt i (by omega)]; exact e)
    · cases ho
  · unfold outOf
    refine List.map_congr_left fun k hk => ?_
    rw [hFget, zip_map]
    have hb8 := List.all_eq_true.1 b8 k hk
    simp only [Bool.or_eq_true, Bool.and_eq_true, List.any_eq_true] at hb8
    have hkN : k < bg.length + (nx - os.length) := by
      rcases hb8 with ⟨i, hi, e⟩ | ⟨e, _⟩
      · have e' := Nat.eq_of_beq_eq_true e
        have := hin i hi
        rcases Nat.lt_or_ge i s.length with h1 | h1
        · rw [tlt i h1] at e'; have := hslt i h1; omega
        · rw [tge i h1] at e'; omega
      · have : k < bg.length := by simpa [Nat.blt_eq] using e
        omega
    rw [if_pos hkN]
    simp only [F]
    cases hf : findT (tau s bg.length) k (I.map fun b => (b, K.get b)) with
    | some o =>
      obtain ⟨i, h1, h2, h3⟩ := findT_some hf
      cases hg : findT (tau s bg.length) k ((List.range nx).map fun i => (i, K.get i)) with
      | none => exact absurd h2 (findT_none hg i (List.mem_range.2 (hin i h1)))
      | some x =>
        obtain ⟨j, g1, g2, g3⟩ := findT_some hg
        have : i = j := tinj i j (h2.trans g2.symm)
        subst this
        rw [← h3, ← g3]
    | none =>
      have hno := findT_none hf
      rcases hb8 with ⟨i, hi, e⟩ | ⟨e1, e2⟩
      · exact absurd (Nat.eq_of_beq_eq_true e) (hno i hi)
      · cases hg : findT (tau s bg.length) k ((List.range nx).map fun i => (i, K.get i)) with
        | none => rfl
        | some x =>
          exfalso
          obtain ⟨j, g1, g2, g3⟩ := findT_some hg
          have hkb : k < bg.length := by simpa [Nat.blt_eq] using e1
          rcases Nat.lt_or_ge j s.length with hj | hj
          · rw [tlt j hj, hsg j hj] at g2
            have : memB s k = true := (memB_iff s k).2 (by rw [← g2]; exact List.getElem_mem hj)
            rw [this] at e2; cases e2
          · rw [tge j hj] at g2; omega
def endsAt (I : List Nat) (r : RO) : Option (List (Bool × Bool) × Value × Nat × List (Option LO)) :=
  match r.end? with
  | some (t, v, K) => some (t, v, K.next, I.map K.get)
  | none => none
theorem MWp.ends {C : Ctx} (hC : C.Ok P) {S : St} {t : List (Bool × Bool)} {v : Value} {nx : Nat} {I : List Nat} {os' : List (Option LO)} (n : Nat) (p : Path) (h : endsAt I (run C n p S) = some (t, v, nx, os')) (ht : trusted t) :
    MWp P S (fun u K => u = v ∧ K.next = nx ∧ I.map K.get = os' ∧ K.lock = 0) := by
  unfold endsAt at h
  split at h
  · rename_i t' v' K he
    simp only [Option.some.injEq, Prod.mk.injEq] at h
    obtain ⟨rfl, rfl, rfl, rfl⟩ := h
    exact MWp.done hC n p he ht ⟨rfl, rfl, rfl, RO.end_lock he⟩
  · cases h
end
end Go.Ly
namespace Go.Ly
open Go.RowKit
def treeSR (leaf : Value → Heap → ER) (rec : St → ER) : SR → ER
  | .go S => rec S
  | .tst b x y => .tst b (treeSR leaf rec x) (treeSR leaf rec y)
  | .done v H => leaf v H
  | _ => .no
def tree (C : Ctx) (leaf : Value → Heap → ER) : Nat → St → ER
  | 0, _ => .no
  | n + 1, S => treeSR leaf (tree C leaf n) (step C S)
def ER.sel : ER → ER
  | .tst b x y => bif b then x.sel else y.sel
  | r => r
section
variable {P : Program} {C : Ctx} {leaf : Value → Heap → ER}
theorem treeSR_sound {rec : St → ER} (hrec : ∀ S r, (rec S).sel = r → (∃ v H, r = (leaf v H).sel ∧ MWp P S (fun u K => u = v ∧ K = H)) ∨ r = .no) :
    ∀ (x : SR) (r : ER), (treeSR leaf rec x).sel = r → (∃ v H, r = (leaf v H).sel ∧ x.sat P (fun u K => u = v ∧ K = H)) ∨ r = .no
  | .go S, r, h => hrec S r h
  | .tst b x y, r, h => by
    simp only [treeSR, ER.sel] at h
    cases b with
    | true =>
      rcases treeSR_sound hrec x r h with ⟨v, H, h1, h2⟩ | h1
      · exact .inl ⟨v, H, h1, fun _ => h2, fun e => by cases e⟩
      · exact .inr h1
    | false =>
      rcases treeSR_sound hrec y r h with ⟨v, H, h1, h2⟩ | h1
      · exact .inl ⟨v, H, h1, fun e => (by cases e), fun _ => h2⟩
      · exact .inr h1
  | .done v H, r, h => .inl ⟨v, H, h.symm, rfl, rfl⟩
  | .stop, r, h => .inr h.symm
  | .no, r, h => .inr h.symm
theorem tree_sound (hC : C.Ok P) : ∀ (n : Nat) (S : St) (r : ER), (tree C leaf n S).sel = r → (∃ v H, r = (leaf v H).sel ∧ MWp P S (fun u K => u = v ∧ K = H)) ∨ r = .no
  | 0, S, r, h => .inr h.symm
  | n + 1, S, r, h => by
    rcases treeSR_sound (fun S r h => tree_sound hC n S r h) (step C S) r h with ⟨v, H, h1, h2⟩ | h1
    · exact .inl ⟨v, H, h1, step_sound hC h2⟩
    · exact .inr h1
theorem ConGood_sel {ρ : Ren} {f : Nat} {args : List Value} {w : World} : ∀ (r : ER), ConGood P ρ f args w r.sel → ConGood P ρ f args w r
  | .tst b x y, h => by
    simp only [ER.sel] at h
    cases b with
    | true => exact ⟨fun _ => ConGood_sel x h, fun e => by cases e⟩
    | false => exact ⟨fun e => (by cases e), fun _ => ConGood_sel y h⟩
  | .val _, h => h
  | .mem _ _, h => h
  | .skip _, h => h
  | .call _ _, h => h
  | .no, h => h
theorem HGood_sel {f : Nat} {args : List Value} {H : Heap} : ∀ (r : ER), HGood P f args H r.sel → HGood P f args H r
  | .tst b x y, h => by
    simp only [ER.sel] at h
    cases b with
    | true => exact ⟨fun _ => HGood_sel x h, fun e => by cases e⟩
    | false => exact ⟨fun e => (by cases e), fun _ => HGood_sel y h⟩
  | .val _, h => h
  | .mem _ _, h => h
  | .skip _, h => h
  | .call _ _, h => h
  | .no, h => h
def hconTree (C : Ctx) (n : Nat) (f : Nat) (H : Heap) (args : List Value) : ER :=
  match C.fn.get f with
  | some fn => bif Nat.ble args.length fn.ntmps && Nat.blt fn.ntmps 1000000 then tree C (fun v K => .mem v K) n (start fn args H) else .no
  | none => .no
theorem hconTree_good (hC : C.Ok P) (n f : Nat) (H : Heap) (args : List Value) : HGood P f args H (hconTree C n f H args) := by
  unfold hconTree
  cases hf : C.fn.get f with
  | none => exact trivial
  | some fn =>
    simp only
    cases hl : (Nat.ble args.length fn.ntmps && Nat.blt fn.ntmps 1000000) with
    | false => exact trivial
    | true =>
      simp only [cond_true]
      refine HGood_sel _ ?_
      rcases tree_sound (leaf := fun v K => .mem v K) hC n (start fn args H) _ rfl with ⟨v, K, h1, h2⟩ | h1
      · rw [h1]
        exact LCalls_of hC hf hl h2
      · rw [h1]; exact trivial
def Ren.shut (ρ : Ren) : Ren := ⟨ρ.b, ρ.cap, fun _ => true, ρ.off, ρ.wd, ρ.tok⟩
theorem shut_leV (ρ : Ren) : Ren.leV ρ ρ.shut := ⟨fun _ _ _ => ⟨rfl, rfl, rfl, rfl⟩, rfl⟩
theorem OR_shut {ρ : Ren} {i : Nat} : ∀ (o : LO) (o' : Obj), OR ρ i o o' → OR ρ.shut i o o'
  | .cells c _, _, ⟨h0, c', h1, e⟩ => ⟨h0, c', VRL.monoV (shut_leV ρ) c c' h1, e⟩
  | .row c _ z, _, ⟨h0, c', d', h1, e, e2⟩ => ⟨h0, c', d', VRL.monoV (shut_leV ρ) c c' h1, e, e2⟩
  | .fn k g n t, _, ⟨h0, hk, c', d', e, e1, e2, hg⟩ => ⟨h0, hk, c', d', e, e1, e2, ⟨fun a j ha hj => by obtain ⟨v', p1, p2⟩ := hg.val a j ha hj; exact ⟨v', p1, VR.monoV (shut_leV ρ) _ _ p2⟩, hg.one⟩⟩
  | .arg _ _ _, _, e => e.elim
def Heap.shut (H : Heap) : Heap := { H with lock := H.next }
theorem Rep.shut {ρ : Ren} {H : Heap} {w : World} (hr : Rep ρ H w) : Rep ρ.shut H.shut w :=
  ⟨hr.small, hr.dom, hr.inj, hr.ltn, fun i o ho hown => by
    obtain ⟨_, b, o', hb, hw, hor⟩ := hr.obj i o ho hown
    exact ⟨fun _ => absurd (hr.ltn i o ho) (by have : H.next ≤ i := by assumption
                                               omega), b, o', hb, hw, OR_shut o o' hor⟩,
   fun i k g n ho => ⟨rfl, (hr.arg i k g n ho).2.wd, fun e j he hj => by
    obtain ⟨h1, b, v', hb, hc, hv⟩ := (hr.arg i k g n ho).2.cell e j he hj
    exact ⟨h1, b, v', hb, hc, VR.monoV (shut_leV ρ) _ _ hv⟩⟩⟩
def ownB (H : Heap) (b : Nat) : Bool := match H.get b with | some o => o.own | none => false
def ansB (H : Heap) : Value → Bool
  | .pointer (some a) => ownB H a.block
  | v => plain v
theorem ownB_some {ρ : Ren} {H : Heap} {w : World} (hr : Rep ρ H w) {b : Nat} (h : ownB H b = true) : ∃ c, ρ b = some c := by
  unfold ownB at h
  cases ho : H.get b with
  | none => rw [ho] at h; cases h
  | some o =>
    rw [ho] at h
    obtain ⟨_, c, _, hc, _⟩ := hr.obj b o ho h
    exact ⟨c, hc⟩
theorem ansB_VR {ρ : Ren} {H : Heap} {w : World} (hr : Rep ρ H w) {v : Value} (h : ansB H v = true) : ∃ v', VR ρ v v' ∧ ∀ ρ' v'', Ren.le ρ.shut ρ' → VR ρ' v v'' → v'' = v' := by
  unfold ansB at h
  split at h
  · rename_i a
    obtain ⟨c, hc⟩ := ownB_some hr h
    refine ⟨.pointer (some ⟨c, ρ.at a, none⟩), by simp only [VR]; exact ⟨c, hc, rfl⟩, fun ρ' v'' hle hv => ?_⟩
    simp only [VR] at hv
    obtain ⟨b, hb, rfl⟩ := hv
    have hs := hle a.block c hc
    have : b = c := by have := hs.b.symm.trans hb; rw [show ρ.shut a.block = ρ a.block from rfl, hc] at this; exact (Option.some.inj this).symm
    subst this
    rw [hs.at]; rfl
  · exact ⟨v, plain_VR v h, fun ρ' v'' _ hv => plain_eq h hv⟩
def conTree (C : Ctx) (n : Nat) (f : Nat) (H : Heap) (args : List Value) : ER :=
  match C.fn.get f with
  | some fn => bif Nat.ble args.length fn.ntmps && Nat.blt fn.ntmps 1000000 then tree C (fun v _ => bif ansB H v then .val v else .no) n (start fn args H.shut) else .no
  | none => .no
theorem conTree_good (hC : C.Ok P) (n f : Nat) (args : List Value) (ρ : Ren) (args' : List Value) (w : World) (H : Heap) (ha : VRL ρ args args') (hr : Rep ρ H w) : ConGood P ρ f args' w (conTree C n f H args) := by
  unfold conTree
  cases hf : C.fn.get f with
  | none => exact trivial
  | some fn =>
    simp only
    cases hl : (Nat.ble args.length fn.ntmps && Nat.blt fn.ntmps 1000000) with
    | false => exact trivial
    | true =>
      simp only [cond_true]
      refine ConGood_sel _ ?_
      rcases tree_sound (leaf := fun v _ => bif ansB H v then .val v else .no) hC n (start fn args H.shut) _ rfl with ⟨v, K, h1, h2⟩ | h1
      · rw [h1]
        cases hb : ansB H v with
        | false => exact trivial
        | true =>
          obtain ⟨v', hv, huniq⟩ := ansB_VR hr hb
          refine ⟨v', hv, ?_⟩
          have hL := LCalls_of hC hf hl h2
          refine (hL ρ.shut args' w (VRL.monoV (shut_leV ρ) _ _ ha) hr.shut).mono ?_
          rintro e w' ⟨ρ', u, u', H', rfl, ⟨rfl, _⟩, q1, q2, q3, q4, q5⟩
          refine ⟨by rw [huniq ρ' u' q1 q3], q5.os, q5.tape, q5.output, q5.size, fun k hk => q5.block k hk (fun _ _ => rfl)⟩
      · rw [h1]; exact trivial
theorem Ctx.Ok.byCon {D : Ctx} (hD : D.Ok P) (hC : C.Ok P) (n f : Nat) : (D.withC f (conTree C n f)).Ok P := hD.withC (fun args ρ args' w H ha hr => conTree_good hC n f args ρ args' w H ha hr)
theorem Ctx.Ok.byRun {D : Ctx} (hD : D.Ok P) (hC : C.Ok P) (n f : Nat) : (D.withH f (hconTree C n f)).Ok P := hD.withH (fun H args => hconTree_good hC n f H args)
end
end Go.Ly
namespace Go.Ly
open Go.RowKit
section
variable {P : Program} {C : Ctx} {Q : Value → Heap → Prop}
def keepV (keep : List Nat) (n : Nat) (t : Tr Value) : List Value := (List.range n).map fun i => bif memB keep i then (t.get i).getD undef else anyV
def atSt (fn : Func) (k : List KI) (dst : Option Tmp) (base : Nat) (vals : List Value) (H : Heap) : St := { top := { fn := fn, t := trArgs vals 0 .nil, k := k, dst := dst }, rest := [], H := H, base := base }
def haltF (keep : List Nat) (d : St) (r : RO) : Bool × List (Bool × Bool) × Bool × (Func × List KI × Option Tmp × Nat) × List Value × Heap := (r.isHalt, r.trust, (r.st d).rest.isEmpty && Nat.blt (r.st d).top.fn.ntmps 1000000, ((r.st d).top.fn, (r.st d).top.k, (r.st d).top.dst, (r.st d).base), keepV keep (r.st d).top.fn.ntmps (r.st d).top.t, (r.st d).H)
theorem MWp.forget (keep : List Nat) {S : St} (hr : S.rest = []) (hn : S.top.fn.ntmps < 1000000) (h : MWp P (atSt S.top.fn S.top.k S.top.dst S.base (keepV keep S.top.fn.ntmps S.top.t) S.H) Q) : MWp P S Q := by
  intro ρ w g gs R hrp hf hfs hR
  rw [hr] at hfs
  have hgs : gs = [] := by simpa [FRL] using hfs
  subst hgs
  have hvl : (keepV keep S.top.fn.ntmps S.top.t).length = S.top.fn.ntmps := by simp [keepV]
  refine h ρ w g [] R hrp ⟨hf.fn, hf.k, hf.dst, ?_⟩ (by simp [atSt, FRL]) hR
  show TR ρ S.top.fn.ntmps (trArgs (keepV keep S.top.fn.ntmps S.top.t) 0 .nil) g.a
  refine ⟨hf.t.size, hf.t.small, fun i => ?_, hf.t.defers⟩
  rw [trArgs_get _ 0 .nil (by rw [hvl]; unfold big; omega)]
  simp only [Nat.zero_le, true_and, Nat.zero_add, Nat.sub_zero]
  have hv := hf.t.val i
  by_cases hi : i < S.top.fn.ntmps
  · rw [if_pos (by rw [hvl]; exact hi)]
    have e : (keepV keep S.top.fn.ntmps S.top.t)[i]? = some (bif memB keep i then (S.top.t.get i).getD undef else anyV) := by simp [keepV, hi]
    rw [e]
    simp only [Option.getD_some]
    cases hk : memB keep i with
    | false => exact VR_any _
    | true => exact hv
  · rw [if_neg (by rw [hvl]; exact hi), Tr.get_nil]
    have : g.a.tmps.getD i undef = undef := by
      rw [Array.getD_eq_getD_getElem?, Array.getElem?_eq_none (by rw [hf.t.size]; omega)]; rfl
    rw [this]; exact VR_undef
theorem MWp.halted (hC : C.Ok P) {S d : St} {t : List (Bool × Bool)} {fn : Func} {k : List KI} {dst : Option Tmp} {base : Nat} {vals : List Value} {H : Heap} (keep : List Nat) (n : Nat) (p : Path)
    (h : haltF keep d (run C n p S) = (true, t, true, (fn, k, dst, base), vals, H)) (htr : trusted t) (hs : MWp P (atSt fn k dst base vals H) Q) : MWp P S Q := by
  simp only [haltF, Prod.mk.injEq, Bool.and_eq_true] at h
  obtain ⟨h1, h2, ⟨h3, h4⟩, ⟨h5, h6, h7, h8⟩, h9, h10⟩ := h
  refine MWp.seg hC (d := d) n p h1 h2 htr (MWp.forget keep ?_ ?_ ?_)
  · simpa using h3
  · simpa [Nat.blt_eq] using h4
  · rw [h9, h10, h6, h7, h8, h5]; exact hs
def LOeq (o o' : LO) : Prop := o = o' ∨ ∃ k g g' n t, o = .fn k g n t ∧ o' = .fn k g' n t ∧ ∀ e j, e < n → j < k → g e j = g' e j
theorem LOeq.refl (o : LO) : LOeq o o := .inl rfl
theorem LOeq.own {o o' : LO} (h : LOeq o o') : o'.own = o.own := by
  rcases h with rfl | ⟨k, g, g', n, t, rfl, rfl, _⟩ <;> rfl
theorem LOeq.or {ρ : Ren} {i : Nat} {o o' : LO} {x : Obj} (h : LOeq o o') (ho : OR ρ i o x) : OR ρ i o' x := by
  rcases h with rfl | ⟨k, g, g', n, t, rfl, rfl, he⟩
  · exact ho
  · obtain ⟨h0, hk, c', d', e, e1, e2, hg⟩ := ho
    exact ⟨h0, hk, c', d', e, e1, e2, ⟨fun a j ha hj => by rw [← he a j ha hj]; exact hg.val a j ha hj, fun a j ha hj => by rw [← he a j ha hj]; exact hg.one a j ha hj⟩⟩
def OLeq : Option LO → Option LO → Prop
  | none, none => True
  | some a, some b => LOeq a b
  | _, _ => False
theorem OLeq.refl : ∀ (o : Option LO), OLeq o o
  | none => trivial
  | some a => LOeq.refl a
theorem Rep.eqv {ρ : Ren} {H H' : Heap} {w : World} (hn : H'.next = H.next) (hl : H'.lock = H.lock) (hg : ∀ i, OLeq (H.get i) (H'.get i)) (hr : Rep ρ H w) : Rep ρ H' w := by
  have back : ∀ i o', H'.get i = some o' → ∃ o, H.get i = some o ∧ LOeq o o' := by
    intro i o' ho
    have := hg i
    rw [ho] at this
    cases hi : H.get i with
    | none => rw [hi] at this; exact this.elim
    | some o => rw [hi] at this; exact ⟨o, rfl, this⟩
  refine ⟨by rw [hn]; exact hr.small, by rw [hn]; exact hr.dom, fun i j b o' hi ho hj h1 h2 => ?_, fun i o' ho => ?_, fun i o' ho hown => ?_, fun i k g n ho => ?_⟩
  · obtain ⟨o, h3, h4⟩ := back i o' hi
    obtain ⟨oj', hj'⟩ := Option.isSome_iff_exists.1 hj
    obtain ⟨oj, h5, h6⟩ := back j oj' hj'
    exact hr.inj i j b o h3 (by rw [← h4.own]; exact ho) (by rw [h5]; rfl) h1 h2
  · obtain ⟨o, h3, h4⟩ := back i o' ho
    rw [hn]; exact hr.ltn i o h3
  · obtain ⟨o, h3, h4⟩ := back i o' ho
    obtain ⟨hro, b, x, hb, hw, hor⟩ := hr.obj i o h3 (by rw [← h4.own]; exact hown)
    exact ⟨by rw [hl]; exact hro, b, x, hb, hw, h4.or hor⟩
  · obtain ⟨o, h3, h4⟩ := back i _ ho
    rcases h4 with rfl | ⟨k, g, g', n, t, _, e, _⟩
    · exact hr.arg i k g n h3
    · cases e
theorem LCalls.eqv {f : FuncId} {args : List Value} {H : Heap} {Q' : Value → Heap → Prop} (h : LCalls P f args H Q) (hq : ∀ v K, Q v K → ∃ K', Q' v K' ∧ K'.next = K.next ∧ K'.lock = K.lock ∧ ∀ i, OLeq (K.get i) (K'.get i)) : LCalls P f args H Q' := by
  intro ρ args' w ha hr
  refine (h ρ args' w ha hr).mono ?_
  rintro e w' ⟨ρ', v, v', H', h1, h2, h3, h4, h5, h6, h7⟩
  obtain ⟨K', k1, k2, k3, k4⟩ := hq v H' h2
  exact ⟨ρ', v, v', K', h1, k1, h3, h4, h5, h6.eqv k2 k3 k4, h7⟩
def Each2 (R : Option LO → Option LO → Prop) : List (Option LO) → List (Option LO) → Prop
  | [], [] => True
  | a :: r, b :: s => R a b ∧ Each2 R r s
  | _, _ => False
theorem Each2.length {R : Option LO → Option LO → Prop} : ∀ {l m : List (Option LO)}, Each2 R l m → l.length = m.length
  | [], [], _ => rfl
  | _ :: _, _ :: _, h => by simp [Each2.length h.2]
  | [], _ :: _, h => h.elim
  | _ :: _, [], h => h.elim
theorem Each2.get {R : Option LO → Option LO → Prop} : ∀ {l m : List (Option LO)}, Each2 R l m → ∀ (i : Nat) a b, l[i]? = some a → m[i]? = some b → R a b
  | [], [], _, i, a, b, h, _ => by simp at h
  | x :: r, y :: s, h, 0, a, b, h1, h2 => by simp at h1 h2; subst h1 h2; exact h.1
  | x :: r, y :: s, h, i + 1, a, b, h1, h2 => Each2.get h.2 i a b (by simpa using h1) (by simpa using h2)
  | [], _ :: _, h, _, _, _, _, _ => h.elim
  | _ :: _, [], h, _, _, _, _, _ => h.elim
theorem setZip_get : ∀ (I : List Nat) (os : List (Option LO)) (t : Tr LO), I.length = os.length → (∀ b ∈ I, b < big) → I.Nodup → (∀ (i b : Nat) o, I[i]? = some b → os[i]? = some o → (setAll (I.zip os) t).get b = o) ∧ (∀ b, b ∉ I → (setAll (I.zip os) t).get b = t.get b)
  | [], [], t, _, _, _ => ⟨fun i b o h => by simp at h, fun _ _ => rfl⟩
  | x :: r, y :: s, t, hl, hb, hnd => by
    obtain ⟨h1, h2⟩ := setZip_get r s t (by simpa using hl) (fun b hb' => hb b (by simp [hb'])) (List.nodup_cons.1 hnd).2
    simp only [List.zip_cons_cons, setAll]
    refine ⟨fun i b o hi ho => ?_, fun b hb' => ?_⟩
    · rw [Tr.get_set _ _ _ (hb x (by simp))]
      cases i with
      | zero => simp at hi ho; subst hi ho; simp
      | succ i =>
        have hi' : r[i]? = some b := by simpa using hi
        have hbr : b ∈ r := List.mem_of_getElem? hi'
        rw [if_neg (fun (e : b = x) => (List.nodup_cons.1 hnd).1 (by rw [← e]; exact hbr))]
        exact h1 i b o hi' (by simpa using ho)
    · rw [Tr.get_set _ _ _ (hb x (by simp)), if_neg (fun e => hb' (by simp [e])), h2 b (fun h => hb' (by simp [h]))]
  | [], _ :: _, _, hl, _, _ => by simp at hl
  | _ :: _, [], _, hl, _, _ => by simp at hl
theorem Ends.eqv {f : FuncId} {args : List Value} {os : List (Option LO)} {I : List Nat} {v : Value} {nx : Nat} {os' os'' : List (Option LO)} (h : Ends P f args os I v nx os') (hI : (nodupB I && I.all (fun b => Nat.blt b 2147483000)) = true) (he : Each2 OLeq os' os'') : Ends P f args os I v nx os'' := by
  rw [Bool.and_eq_true] at hI
  have hnd := nodupB_iff I hI.1
  have hb : ∀ b ∈ I, b < big := fun b hb => by have := List.all_eq_true.1 hI.2 b hb; simpa [Nat.blt_eq, big] using this
  refine LCalls.eqv h ?_
  rintro u K ⟨rfl, h1, h2, h3⟩
  have hlen : I.length = os''.length := by rw [← he.length, ← h2]; simp
  obtain ⟨g1, g2⟩ := setZip_get I os'' K.m hlen hb hnd
  refine ⟨{ K with m := setAll (I.zip os'') K.m }, ⟨rfl, h1, ?_, h3⟩, rfl, rfl, fun i => ?_⟩
  · apply List.ext_getElem?
    intro i
    rw [List.getElem?_map]
    by_cases hi : i < I.length
    · rw [List.getElem?_eq_getElem hi, List.getElem?_eq_getElem (by omega)]
      simp only [Option.map_some, Option.some.injEq]
      exact g1 i _ _ (List.getElem?_eq_getElem hi) (List.getElem?_eq_getElem (by omega))
    · rw [List.getElem?_eq_none (by omega), List.getElem?_eq_none (by omega)]; rfl
  · by_cases hi : i ∈ I
    · obtain ⟨j, hj, e⟩ := List.getElem_of_mem hi
      have e1 := g1 j i _ (by rw [List.getElem?_eq_getElem hj, e]) (List.getElem?_eq_getElem (show j < os''.length by omega))
      show OLeq (K.get i) ((setAll (I.zip os'') K.m).get i)
      rw [e1]
      refine he.get j _ _ ?_ (List.getElem?_eq_getElem (by omega))
      rw [← h2, List.getElem?_map, List.getElem?_eq_getElem hj, e]; rfl
    · show OLeq (K.get i) ((setAll (I.zip os'') K.m).get i)
      rw [g2 i hi]; exact OLeq.refl _
end
end Go.Ly
namespace Go.Ly
open Go.RowKit
def tokV (p : Nat) : Value := .chan (some p)
def tokAt (ps : List Nat) : Nat → List Value → List Value
  | _, [] => []
  | p, v :: r => (bif memB ps p then tokV p else v) :: tokAt ps (p + 1) r
mutual
def noTok : Value → Bool
  | .chan (some _) => false
  | .func _ ⟨xs⟩ ⟨ys⟩ => noTokL xs && noTokL ys
  | .iface _ x => noTok x
  | .agg ⟨xs⟩ => noTokL xs
  | .tuple ⟨xs⟩ => noTokL xs
  | _ => true
def noTokL : List Value → Bool
  | [] => true
  | v :: r => noTok v && noTokL r
end
def tokOk (ps : List Nat) : Value → Bool
  | .chan (some p) => memB ps p
  | v => noTok v
def unTok (c : List Value) : Value → Value
  | .chan (some p) => (c[p]?).getD undef
  | v => v
def noTokO : LO → Bool
  | .cells c _ => noTokL c
  | .row c _ _ => noTokL c
  | _ => true
def tokOkO (ps : List Nat) : LO → Bool
  | .cells c _ => c.all (tokOk ps)
  | .row c _ _ => c.all (tokOk ps)
  | _ => true
def unO (c : List Value) : LO → LO
  | .cells l t => .cells (l.map (unTok c)) t
  | .row l t z => .row (l.map (unTok c)) t z
  | o => o
def Ren.say (ρ : Ren) (τ : Nat → Value) : Ren := ⟨ρ.b, ρ.cap, ρ.ro, ρ.off, ρ.wd, τ⟩
section
variable {P : Program} {ρ : Ren}
mutual
theorem VR_say {τ : Nat → Value} : ∀ (v v' : Value), noTok v = true → (VR ρ v v' ↔ VR (ρ.say τ) v v')
  | .bool _, _, _ => by simp only [VR]
  | .int _ _, _, _ => by simp only [VR]
  | .string _, _, _ => by simp only [VR]
  | .pointer none, _, _ => by simp only [VR]
  | .pointer (some a), _, _ => by simp only [VR]; rfl
  | .slice none _ _, _, _ => by simp only [VR]
  | .slice (some a) n c, _, _ => by simp only [VR]; rfl
  | .map none, _, _ => by simp only [VR]
  | .map (some r), _, _ => by simp only [VR]; rfl
  | .func fn ⟨xs⟩ ⟨ys⟩, v', h => by
    simp only [noTok, Bool.and_eq_true] at h
    simp only [VR]
    constructor
    · rintro ⟨xs', ys', h1, h2, h3⟩; exact ⟨xs', ys', (VRL_say xs xs' h.1).1 h1, (VRL_say ys ys' h.2).1 h2, h3⟩
    · rintro ⟨xs', ys', h1, h2, h3⟩; exact ⟨xs', ys', (VRL_say xs xs' h.1).2 h1, (VRL_say ys ys' h.2).2 h2, h3⟩
  | .nilFunc, _, _ => by simp only [VR]
  | .iface t x, v', h => by
    simp only [noTok] at h
    simp only [VR]
    constructor
    · rintro ⟨x', h1, h2⟩; exact ⟨x', (VR_say x x' h).1 h1, h2⟩
    · rintro ⟨x', h1, h2⟩; exact ⟨x', (VR_say x x' h).2 h1, h2⟩
  | .nilIface, _, _ => by simp only [VR]
  | .agg ⟨xs⟩, v', h => by
    simp only [noTok] at h
    simp only [VR]
    constructor
    · rintro ⟨x', h1, h2⟩; exact ⟨x', (VRL_say xs x' h).1 h1, h2⟩
    · rintro ⟨x', h1, h2⟩; exact ⟨x', (VRL_say xs x' h).2 h1, h2⟩
  | .tuple ⟨xs⟩, v', h => by
    simp only [noTok] at h
    simp only [VR]
    constructor
    · rintro ⟨x', h1, h2⟩; exact ⟨x', (VRL_say xs x' h).1 h1, h2⟩
    · rintro ⟨x', h1, h2⟩; exact ⟨x', (VRL_say xs x' h).2 h1, h2⟩
  | .float _ _, _, _ => by simp only [VR]
  | .complex _ _ _, _, _ => by simp only [VR]
  | .chan none, _, _ => by simp only [VR]
  | .chan (some _), _, h => by simp [noTok] at h
theorem VRL_say {τ : Nat → Value} : ∀ (l l' : List Value), noTokL l = true → (VRL ρ l l' ↔ VRL (ρ.say τ) l l')
  | [], _, _ => by simp only [VRL]
  | v :: r, l', h => by
    simp only [noTokL, Bool.and_eq_true] at h
    simp only [VRL]
    constructor
    · rintro ⟨v', r', h1, h2, h3⟩; exact ⟨v', r', (VR_say v v' h.1).1 h1, (VRL_say r r' h.2).1 h2, h3⟩
    · rintro ⟨v', r', h1, h2, h3⟩; exact ⟨v', r', (VR_say v v' h.1).2 h1, (VRL_say r r' h.2).2 h2, h3⟩
end
theorem cst_noTok {v : Value} (h : cst v = true) : noTok v = true := by
  unfold cst at h
  split at h <;> first | rfl | simp at h
theorem GR_say {τ : Nat → Value} {k n off : Nat} {g : Nat → Nat → Value} {c : List Value} (h : GR ρ k g n off c) : GR (ρ.say τ) k g n off c :=
  ⟨fun e j he hj => by obtain ⟨v', h1, h2⟩ := h.val e j he hj; exact ⟨v', h1, (VR_say _ _ (cst_noTok (h.one e j he hj))).1 h2⟩, h.one⟩
theorem OR_say {τ : Nat → Value} {i : Nat} : ∀ (o : LO) (o' : Obj), noTokO o = true → OR ρ i o o' → OR (ρ.say τ) i o o'
  | .cells c _, _, h, ⟨h0, c', h1, e⟩ => ⟨h0, c', (VRL_say c c' h).1 h1, e⟩
  | .row c _ z, _, h, ⟨h0, c', d', h1, e, e2⟩ => ⟨h0, c', d', (VRL_say c c' h).1 h1, e, e2⟩
  | .fn k g n t, _, _, ⟨h0, hk, c', d', e, e1, e2, hg⟩ => ⟨h0, hk, c', d', e, e1, e2, GR_say hg⟩
  | .arg _ _ _, _, _, e => e.elim
theorem AR_say {τ : Nat → Value} {i k n : Nat} {g : Nat → Nat → Value} {w : World} (h : AR ρ i k g n w) : AR (ρ.say τ) i k g n w :=
  ⟨h.wd, fun e j he hj => by obtain ⟨h1, b, v', hb, hc, hv⟩ := h.cell e j he hj; exact ⟨h1, b, v', hb, hc, (VR_say _ _ (cst_noTok h1)).1 hv⟩⟩
theorem tokAt_VRL {ps : List Nat} {τ : Nat → Value} : ∀ (p : Nat) (c c' : List Value), VRL ρ c c' → noTokL c = true → (∀ (q : Nat) v, c'[q]? = some v → τ (p + q) = v) → VRL (ρ.say τ) (tokAt ps p c) c'
  | p, [], c', h, _, _ => by simp only [VRL] at h; subst h; simp [tokAt, VRL]
  | p, v :: r, c', h, hn, ht => by
    simp only [VRL] at h
    obtain ⟨v', r', h1, h2, rfl⟩ := h
    simp only [noTokL, Bool.and_eq_true] at hn
    simp only [tokAt, VRL]
    refine ⟨v', r', ?_, tokAt_VRL (p + 1) r r' h2 hn.2 (fun q u hq => ?_), rfl⟩
    · cases hm : memB ps p with
      | false => exact (VR_say v v' hn.1).1 h1
      | true =>
        have := ht 0 v' (by simp)
        simp only [cond_true, tokV, VR, Ren.say]
        exact this.symm
    · rw [show p + 1 + q = p + (q + 1) by omega]
      exact ht (q + 1) u (by simpa using hq)
theorem unTok_VR {ρ' : Ren} {ps : List Nat} {c : List Value} {τ τ0 : Nat → Value} (hτ : ρ'.tok = τ) (hc : ∀ p, memB ps p = true → VR (ρ'.say τ0) ((c[p]?).getD undef) (τ p)) : ∀ (v v' : Value), tokOk ps v = true → VR ρ' v v' → VR (ρ'.say τ0) (unTok c v) v' := by
  intro v v' hk hv
  by_cases ht : ∃ p, v = .chan (some p)
  · obtain ⟨p, rfl⟩ := ht
    simp only [tokOk] at hk
    simp only [VR] at hv
    simp only [unTok]
    rw [hv, hτ]; exact hc p hk
  · have hno : noTok v = true := by
      unfold tokOk at hk
      split at hk
      · exact absurd ⟨_, rfl⟩ ht
      · exact hk
    have hun : unTok c v = v := by
      unfold unTok
      split
      · exact absurd ⟨_, rfl⟩ ht
      · rfl
    rw [hun]
    exact (VR_say v v' hno).1 hv
theorem unTok_VRL {ρ' : Ren} {ps : List Nat} {c : List Value} {τ τ0 : Nat → Value} (hτ : ρ'.tok = τ) (hc : ∀ p, memB ps p = true → VR (ρ'.say τ0) ((c[p]?).getD undef) (τ p)) : ∀ (l l' : List Value), l.all (tokOk ps) = true → VRL ρ' l l' → VRL (ρ'.say τ0) (l.map (unTok c)) l'
  | [], l', _, h => by simp only [VRL] at h; subst h; simp [VRL]
  | v :: r, l', hk, h => by
    simp only [List.all_cons, Bool.and_eq_true] at hk
    simp only [VRL] at h
    obtain ⟨v', r', h1, h2, rfl⟩ := h
    simp only [List.map_cons, VRL]
    exact ⟨v', r', unTok_VR hτ hc v v' hk.1 h1, unTok_VRL hτ hc r r' hk.2 h2, rfl⟩
theorem unO_OR {ρ' : Ren} {ps : List Nat} {c : List Value} {τ τ0 : Nat → Value} (hτ : ρ'.tok = τ) (hc : ∀ p, memB ps p = true → VR (ρ'.say τ0) ((c[p]?).getD undef) (τ p)) {i : Nat} : ∀ (o : LO) (o' : Obj), tokOkO ps o = true → OR ρ' i o o' → OR (ρ'.say τ0) i (unO c o) o'
  | .cells l _, _, h, ⟨h0, c', h1, e⟩ => ⟨h0, c', unTok_VRL hτ hc l c' h h1, e⟩
  | .row l _ z, _, h, ⟨h0, c', d', h1, e, e2⟩ => ⟨h0, c', d', unTok_VRL hτ hc l c' h h1, e, e2⟩
  | .fn k g n t, _, _, ⟨h0, hk, c', d', e, e1, e2, hg⟩ => ⟨h0, hk, c', d', e, e1, e2, GR_say hg⟩
  | .arg _ _ _, _, _, e => e.elim
theorem unO_own (c : List Value) (o : LO) : (unO c o).own = o.own := by cases o <;> rfl
end
end Go.Ly
namespace Go.Ly
open Go.RowKit
section
variable {P : Program} {w : World}
structure RealRows (w : World) (k : Nat) (g : Nat → Nat → Value) (n : Nat) (x' : Value) (p : Option Plc) : Prop where
  shape : ∃ a' c', x' = .slice (some a') n c' ∧ n ≤ c' ∧ (n ≠ 0 → ∃ q, p = some q ∧ a' = ⟨q.b, q.o, none⟩ ∧ q.c = c')
  low : ∀ q, p = some q → q.b < w.heap.size
  cell : ∀ e j, e < n → j < k → ∃ q, p = some q ∧ w.cell? ⟨q.b, q.o + (e * k + j), none⟩ = some (g e j)
  one : ∀ e j, e < n → j < k → cst (g e j) = true
theorem RealRows.congr {k n : Nat} {g g' : Nat → Nat → Value} {x' : Value} {p : Option Plc} (h : RealRows w k g n x' p) (he : ∀ e j, e < n → j < k → g e j = g' e j) : RealRows w k g' n x' p :=
  ⟨h.shape, h.low, fun e j a b => by rw [← he e j a b]; exact h.cell e j a b, fun e j a b => by rw [← he e j a b]; exact h.one e j a b⟩
def rowsRenW (l : List (Option Plc)) (ws : Nat → Nat) : Ren := ⟨fun i => ((l[i]?).getD none).map (·.b), fun i => (((l[i]?).getD none).map (·.c)).getD 0, fun _ => true, fun i => (((l[i]?).getD none).map (·.o)).getD 0, ws, fun _ => undef⟩
theorem rowsW_rep {l : List (Option Plc)} {ws : Nat → Nat} {rs : List (Nat × (Nat → Nat → Value) × Nat)} (hl : l.length = rs.length) (hs : rs.length < 1000) (hb : ∀ (i : Nat) (q : Plc), (l[i]?).getD none = some q → q.b < w.heap.size)
    (hr : ∀ (i k : Nat) (g : Nat → Nat → Value) (n : Nat), rs[i]? = some (k, g, n) → ws i = k ∧ ∀ e j, e < n → j < k → cst (g e j) = true ∧ ∃ q : Plc, (l[i]?).getD none = some q ∧ w.cell? ⟨q.b, q.o + (e * k + j), none⟩ = some (g e j)) :
    Rep (rowsRenW l ws) (mkH (rs.map fun r => some (.arg r.1 r.2.1 r.2.2))) w := by
  have hlen : (rs.map fun r => some (LO.arg r.1 r.2.1 r.2.2)).length < big := by simp [big]; omega
  have hget : ∀ j o, (mkH (rs.map fun r => some (LO.arg r.1 r.2.1 r.2.2))).get j = some o → ∃ r, rs[j]? = some r ∧ o = .arg r.1 r.2.1 r.2.2 := by
    intro j o ho
    rw [mkH_get _ hlen] at ho
    simp only [List.getElem?_map] at ho
    cases hj : rs[j]? with
    | none => rw [hj] at ho; simp at ho
    | some r => rw [hj] at ho; simp at ho; exact ⟨r, rfl, ho.symm⟩
  refine ⟨by simp [mkH, big]; omega, fun i b h => ?_, fun i j b o hi hown => ?_, fun i o ho => ?_, fun i o ho hown => ?_, fun i k g n ho => ?_⟩
  · simp only [rowsRenW, Option.map_eq_some_iff] at h
    obtain ⟨q, h1, rfl⟩ := h
    refine ⟨?_, hb i q h1⟩
    rcases Nat.lt_or_ge i l.length with h2 | h2
    · simpa [mkH, hl] using h2
    · rw [List.getElem?_eq_none h2] at h1; simp at h1
  · obtain ⟨r, _, rfl⟩ := hget i o hi; simp [LO.own] at hown
  · obtain ⟨r, h1, _⟩ := hget i o ho
    have := (List.getElem?_eq_some_iff.1 h1).1
    simpa [mkH] using this
  · obtain ⟨r, _, rfl⟩ := hget i o ho; simp [LO.own] at hown
  · obtain ⟨r, h1, h2⟩ := hget i _ ho
    simp only [LO.arg.injEq] at h2
    obtain ⟨rfl, rfl, rfl⟩ := h2
    obtain ⟨hw, hc⟩ := hr i r.1 r.2.1 r.2.2 h1
    refine ⟨rfl, hw, fun e j he hj => ?_⟩
    obtain ⟨h0, q, h3, h4⟩ := hc e j he hj
    refine ⟨h0, q.b, r.2.1 e j, by simp [rowsRenW, h3], ?_, cst_VR h0⟩
    simp only [rowsRenW, h3, Option.map_some, Option.getD_some]
    exact h4
theorem slW_VR {k : Nat} {g : Nat → Nat → Value} {n i : Nat} {x' : Value} {l : List (Option Plc)} {ws : Nat → Nat} {p : Option Plc} (h : RealRows w k g n x' p) (hp : (l[i]?).getD none = p) : VR (rowsRenW l ws) (sl i n) x' := by
  obtain ⟨a', c', rfl, hc, hn⟩ := h.shape
  simp only [sl, VR]
  refine ⟨a', c', rfl, hc, fun e => absurd rfl e, fun h0 => ?_⟩
  obtain ⟨q, rfl, rfl, rfl⟩ := hn h0
  exact ⟨q.b, by simp [rowsRenW, hp], by simp [Ren.at, rowsRenW, hp], fun _ _ => by simp [rowsRenW, hp]⟩
def noSl : List CK → Bool
  | [] => true
  | .slice _ :: _ => false
  | _ :: r => noSl r
theorem cks_cst : ∀ {ks : List CK} {l : List Value}, noSl ks = true → CksOk w ks l → ∀ (j : Nat) (v : Value), l[j]? = some v → cst v = true
  | [], l, _, h, j, v, e => by simp only [CksOk] at h; subst h; simp at e
  | k :: ks, l, hn, h, j, v, e => by
    simp only [CksOk] at h
    obtain ⟨x, r, rfl, h1, h2⟩ := h
    cases j with
    | zero =>
      simp at e; subst e
      cases k with
      | bool => simp only [CkOk] at h1; obtain ⟨b, rfl⟩ := h1; rfl
      | int k => simp only [CkOk] at h1; obtain ⟨b, rfl, _⟩ := h1; rfl
      | str => simp only [CkOk] at h1; obtain ⟨b, rfl, _⟩ := h1; rfl
      | slice s => simp [noSl] at hn
    | succ j =>
      refine cks_cst (ks := ks) ?_ h2 j v (by simpa using e)
      cases k <;> first | exact hn | (simp [noSl] at hn)
theorem ck_rows {ks : List CK} {v : Value} (hk : noSl ks = true) (hpos : 0 < ks.length) (h : CkOk w (.slice ks) v) : v = .slice none 0 0 ∨ ∃ (n : Nat) (F : Nat → List Value) (p : Option Plc), RealRows w ks.length (fun e j => ((F e)[j]?).getD undef) n v p ∧ (∀ e, e < n → CksOk w ks (F e)) ∧ n ≤ maxLen := by
  simp only [CkOk] at h
  rcases h with rfl | ⟨a, len, cap, F, rfl, hlc, hcap, hF⟩
  · exact .inl rfl
  · right
    refine ⟨len, F, bif Nat.blt 0 len then some ⟨a.block, a.off, cap⟩ else none, ⟨⟨a, cap, rfl, hlc, fun hn => ?_⟩, fun q hq => ?_, fun e j he hj => ?_, fun e j he hj => ?_⟩, fun e he => (hF e he).2.2, Nat.le_trans hlc hcap⟩
    · have hb : Nat.blt 0 len = true := by rw [Nat.blt_eq]; omega
      rw [hb]
      obtain ⟨_, h2, _⟩ := hF 0 (by omega)
      obtain ⟨_, h5, _⟩ := h2 0 hpos
      refine ⟨_, rfl, ?_, rfl⟩
      cases a; simp_all
    · cases hb : Nat.blt 0 len with
      | false => rw [hb] at hq; cases hq
      | true =>
        rw [hb] at hq; simp only [cond_true, Option.some.injEq] at hq; subst hq
        obtain ⟨_, h2, _⟩ := hF 0 (by simpa [Nat.blt_eq] using hb)
        exact (h2 0 hpos).1
    · have hb : Nat.blt 0 len = true := by rw [Nat.blt_eq]; omega
      rw [hb]
      obtain ⟨h1, h2, _⟩ := hF e he
      obtain ⟨_, h5, h6⟩ := h2 j hj
      refine ⟨_, rfl, ?_⟩
      have : (F e)[j]? = some ((F e)[j]'(by omega)) := List.getElem?_eq_getElem _
      rw [this] at h6 ⊢
      rw [Option.getD_some, ← h6]
      congr 1
      obtain ⟨ab, ao, ap⟩ := a
      simp only at h5; subst h5
      unfold Addr.add
      by_cases hz : e * ks.length + j = 0
      · simp [hz]
      · rw [if_neg hz]
    · obtain ⟨h1, h2, h3⟩ := hF e he
      have : (F e)[j]? = some ((F e)[j]'(by omega)) := List.getElem?_eq_getElem _
      rw [this, Option.getD_some]
      exact cks_cst hk h3 j _ this
end
section
variable {P : Program} {C : Ctx}
end
end Go.Ly
namespace Go.Ly
open Go.RowKit
def ofF (G : Nat → Option LO) (n : Nat) : Heap := { m := setAll ((List.range n).map fun b => (b, G b)) .nil, next := n }
theorem ofF_get {G : Nat → Option LO} {n : Nat} (h : n ≤ big) (b : Nat) : (ofF G n).get b = if b < n then G b else none := by
  show (setAll ((List.range n).map fun b => (b, G b)) .nil).get b = _
  rw [setAll_get G (List.range n) .nil (fun b hb => Nat.lt_of_lt_of_le (List.mem_range.1 hb) h)]
  simp only [List.mem_range, Tr.get_nil]
def VW (v u : Value) : Prop := ∀ ρ v', VR ρ v v' → VR ρ u v'
theorem VW.refl (v : Value) : VW v v := fun _ _ h => h
theorem VW.any (v : Value) : VW v anyV := fun _ v' _ => VR_any v'
def VWL : List Value → List Value → Prop
  | [], l => l = []
  | v :: r, l => ∃ u s, VW v u ∧ VWL r s ∧ l = u :: s
theorem VWL.rel {ρ : Ren} : ∀ {l m l' : List Value}, VWL l m → VRL ρ l l' → VRL ρ m l'
  | [], m, l', h, k => by simp only [VWL] at h; subst h; exact k
  | v :: r, m, l', h, k => by
    obtain ⟨u, s, h1, h2, rfl⟩ := h
    simp only [VRL] at k ⊢
    obtain ⟨v', r', k1, k2, rfl⟩ := k
    exact ⟨v', r', h1 ρ v' k1, VWL.rel h2 k2, rfl⟩
def OW (o u : LO) : Prop := (∃ c c' t, o = .cells c t ∧ u = .cells c' t ∧ VWL c c') ∨ LOeq o u
theorem OW.refl (o : LO) : OW o o := .inr (LOeq.refl o)
theorem OW.cells {c c' : List Value} {t : TypeId} (h : VWL c c') : OW (.cells c t) (.cells c' t) := .inl ⟨c, c', t, rfl, rfl, h⟩
theorem OW.own {o u : LO} (h : OW o u) : u.own = o.own := by
  rcases h with ⟨c, c', t, rfl, rfl, _⟩ | h
  · rfl
  · exact h.own
theorem OW.or {ρ : Ren} {i : Nat} {o u : LO} {x : Obj} (h : OW o u) (ho : OR ρ i o x) : OR ρ i u x := by
  rcases h with ⟨c, c', t, rfl, rfl, hw⟩ | h
  · obtain ⟨h0, d, hd, e⟩ := ho
    exact ⟨h0, d, hw.rel hd, e⟩
  · exact h.or ho
structure WeakH (H K : Heap) : Prop where
  next : K.next = H.next
  lock : K.lock = H.lock
  obj : ∀ i o, K.get i = some o → ∃ x, H.get i = some x ∧ OW x o
theorem Rep.weak {ρ : Ren} {H K : Heap} {w : World} (h : WeakH H K) (hr : Rep ρ H w) : Rep ρ K w := by
  refine ⟨by rw [h.next]; exact hr.small, by rw [h.next]; exact hr.dom, fun i j b o hi ho hj h1 h2 => ?_, fun i o ho => ?_, fun i o ho hown => ?_, fun i k g n ho => ?_⟩
  · obtain ⟨x, h3, h4⟩ := h.obj i o hi
    obtain ⟨oj, hj'⟩ := Option.isSome_iff_exists.1 hj
    obtain ⟨y, h5, _⟩ := h.obj j oj hj'
    exact hr.inj i j b x h3 (by rw [← h4.own]; exact ho) (by rw [h5]; rfl) h1 h2
  · obtain ⟨x, h3, h4⟩ := h.obj i o ho
    rw [h.next]; exact hr.ltn i x h3
  · obtain ⟨x, h3, h4⟩ := h.obj i o ho
    obtain ⟨r1, b, o', r2, r3, r4⟩ := hr.obj i x h3 (by rw [← h4.own]; exact hown)
    exact ⟨fun hh => r1 (by rw [← h.lock]; exact hh), b, o', r2, r3, h4.or r4⟩
  · obtain ⟨x, h3, h4⟩ := h.obj i _ ho
    have : x = .arg k g n := by
      rcases h4 with ⟨c, c', t, rfl, e, _⟩ | e | ⟨_, _, _, _, _, _, e, _⟩
      · cases e
      · exact e
      · cases e
    subst this
    exact hr.arg i k g n h3
section
variable {P : Program} {Q Q' : Value → Heap → Prop} {f : FuncId} {args : List Value} {H K : Heap}
theorem MWp.weak {S : St} (hw : WeakH S.H K) (h : MWp P { S with H := K } Q) : MWp P S Q := by
  intro ρ w g gs R hr hf hfl hk
  exact h ρ w g gs R (hr.weak hw) hf hfl hk
theorem LCalls.ltn (h : (∀ i o, H.get i = some o → i < H.next) → H.next < big → LCalls P f args H Q) : LCalls P f args H Q := fun ρ args' w ha hr => h hr.ltn hr.small ρ args' w ha hr
theorem MWp.ltn {S : St} (h : (∀ i o, S.H.get i = some o → i < S.H.next) → S.H.next < big → MWp P S Q) : MWp P S Q := fun ρ w g gs R hr => h hr.ltn hr.small ρ w g gs R hr
structure Sit (H : Heap) (os : List (Option LO)) (L : List Nat) : Prop where
  lock : H.lock = 0
  len : L.length = os.length
  nd : L.Nodup
  at_ : ∀ i o, os[i]? = some (some o) → H.get (sg L i) = some (renO (tau L H.next) o)
def fitB (os : List (Option LO)) (I : List Nat) (nx : Nat) : Bool := os.all Option.isSome && (Nat.ble os.length nx && (nodupB I && I.all (fun i => Nat.blt i nx)))
theorem Ends.fit {os os' : List (Option LO)} {I L : List Nat} {v : Value} {nx : Nat} (h : Ends P f args os I v nx os') (hB : fitB os I nx = true) (hs : Sit H os L) (hbig : H.next + nx < big) :
    LCalls P f (renL (tau L H.next) args) H (fun u H' => u = renV (tau L H.next) v ∧ H'.lock = 0 ∧ H'.next = H.next + (nx - os.length) ∧
      (∀ (j i : Nat) (o : Option LO), I[j]? = some i → os'[j]? = some o → H'.get (tau L H.next i) = o.map (renO (tau L H.next))) ∧
      (∀ k, k < H.next → k ∉ L → H'.get k = H.get k) ∧
      (∀ k o, H'.get k = some o → (k < H.next ∧ k ∉ L ∧ H.get k = some o) ∨ ∃ (j i : Nat) (o' : LO), I[j]? = some i ∧ os'[j]? = some (some o') ∧ k = tau L H.next i ∧ o = renO (tau L H.next) o')) := by
  refine LCalls.ltn fun hlt hsm => ?_
  simp only [fitB, Bool.and_eq_true] at hB
  obtain ⟨b1, b2, b3, b4⟩ := hB
  have h2 := Nat.le_of_ble_eq_true b2
  have hnd := nodupB_iff I b3
  have hI : ∀ i ∈ I, i < nx := fun i hi => by have := List.all_eq_true.1 b4 i hi; simpa [Nat.blt_eq] using this
  have hlen : os.length < big := by omega
  have hL := hs.len
  have hsg : ∀ i, (hi : i < L.length) → sg L i = L[i] := fun i hi => by unfold sg; rw [List.getD_eq_getElem?_getD, List.getElem?_eq_getElem hi]; rfl
  have hosome : ∀ i, i < os.length → ∃ o, os[i]? = some (some o) := fun i hi => by
    have hx := List.all_eq_true.1 b1 _ (List.getElem_mem hi)
    obtain ⟨o, ho⟩ := Option.isSome_iff_exists.1 hx
    exact ⟨o, by rw [List.getElem?_eq_getElem hi, ho]⟩
  have hslt : ∀ i, i < L.length → sg L i < H.next := fun i hi => by
    obtain ⟨o, ho⟩ := hosome i (by omega)
    exact hlt _ _ (hs.at_ i o ho)
  have hinj : ∀ i j, i < L.length → j < L.length → sg L i = sg L j → i = j := fun i j hi hj e => by
    rw [hsg i hi, hsg j hj] at e; exact (List.getElem_inj hs.nd).1 e
  have tlt : ∀ i, i < L.length → tau L H.next i = sg L i := fun i hi => ext_lt hi
  have tge : ∀ i, L.length ≤ i → tau L H.next i = H.next + (i - L.length) := fun i hi => ext_ge hi
  have tinj : ∀ i j, tau L H.next i = tau L H.next j → i = j := by
    intro i j e
    rcases Nat.lt_or_ge i L.length with hi | hi <;> rcases Nat.lt_or_ge j L.length with hj | hj
    · rw [tlt i hi, tlt j hj] at e; exact hinj i j hi hj e
    · rw [tlt i hi, tge j hj] at e; have := hslt i hi; omega
    · rw [tge i hi, tlt j hj] at e; have := hslt j hj; omega
    · rw [tge i hi, tge j hj] at e; omega
  have hτ : tau L H.next = ext (sg L) (mkH os).next H.next := by unfold tau; rw [hL]; rfl
  have hosget : ∀ i o, (mkH os).get i = some o → os[i]? = some (some o) ∧ i < os.length := by
    intro i o ho
    rw [mkH_get _ hlen] at ho
    cases hi : os[i]? with
    | none => rw [hi] at ho; cases ho
    | some x => rw [hi] at ho; simp at ho; subst ho; exact ⟨rfl, (List.getElem?_eq_some_iff.1 hi).1⟩
  have hfit : Fits (sg L) (mkH os) H := by
    refine ⟨by simpa [mkH] using hlen, hs.lock, fun i hi => ?_, fun i o ho => (hosget i o ho).2, fun i o ho => ?_, fun i j hi hj e => ?_⟩
    · obtain ⟨o, ho⟩ := hosome i hi
      exact ⟨o, by rw [mkH_get _ hlen, ho]; rfl⟩
    · obtain ⟨h1, h2⟩ := hosget i o ho
      rw [← hτ]; exact hs.at_ i o h1
    · have hi' : i < os.length := hi
      have hj' : j < os.length := hj
      exact hinj i j (by omega) (by omega) e
  have key : LCalls P f (renL (ext (sg L) (mkH os).next H.next) args) H (fun u H' => u = renV (tau L H.next) v ∧ H'.lock = 0 ∧ H'.next = H.next + (nx - os.length) ∧
      (∀ (j i : Nat) (o : Option LO), I[j]? = some i → os'[j]? = some o → H'.get (tau L H.next i) = o.map (renO (tau L H.next))) ∧
      (∀ k, k < H.next → k ∉ L → H'.get k = H.get k) ∧
      (∀ k o, H'.get k = some o → (k < H.next ∧ k ∉ L ∧ H.get k = some o) ∨ ∃ (j i : Nat) (o' : LO), I[j]? = some i ∧ os'[j]? = some (some o') ∧ k = tau L H.next i ∧ o = renO (tau L H.next) o')) := by
    refine LCalls.frame h hfit ?_
    rintro vs K ⟨rfl, hn, hK, hlk⟩
    let F : Nat → Option LO := fun k => match findT (tau L H.next) k (I.map fun i => (i, K.get i)) with
      | some o => o.map (renO (tau L H.next))
      | none => if k ∈ L then none else H.get k
    have hFget : ∀ k, (ofF F (H.next + (nx - os.length))).get k = if k < H.next + (nx - os.length) then F k else none := ofF_get (by omega)
    have Fin : ∀ i ∈ I, F (tau L H.next i) = (K.get i).map (renO (tau L H.next)) := by
      intro i hi
      simp only [F]
      cases hf : findT (tau L H.next) (tau L H.next i) (I.map fun i => (i, K.get i)) with
      | none => exact absurd rfl (findT_none hf i hi)
      | some x =>
        obtain ⟨j, _, h2, h3⟩ := findT_some hf
        have := tinj j i h2
        subst this
        rw [← h3]
    have Fout : ∀ k, (∀ i ∈ I, tau L H.next i ≠ k) → F k = if k ∈ L then none else H.get k := by
      intro k hk
      simp only [F]
      cases hf : findT (tau L H.next) k (I.map fun i => (i, K.get i)) with
      | none => rfl
      | some x =>
        obtain ⟨j, h1, h2, h3⟩ := findT_some hf
        exact absurd h2 (hk j h1)
    have tI : ∀ i ∈ I, tau L H.next i < H.next + (nx - os.length) := by
      intro i hi
      have := hI i hi
      rcases Nat.lt_or_ge i L.length with h1 | h1
      · rw [tlt i h1]; have := hslt i h1; omega
      · rw [tge i h1]; omega
    have hKI : ∀ (j i : Nat), I[j]? = some i → os'[j]? = some (K.get i) := by
      intro j i hj
      rw [← hK, List.getElem?_map, hj]; rfl
    refine ⟨ofF F (H.next + (nx - os.length)), ⟨hlk, by show os.length ≤ K.next; omega, by show H.next + (K.next - os.length) ≤ H.next + (nx - os.length); omega, by show H.next + (nx - os.length) < big; omega, ?_⟩, by rw [hτ], rfl, rfl, ?_, ?_, ?_⟩
    · intro k o ho
      rw [hFget] at ho
      split at ho
      · by_cases hk : ∃ i ∈ I, tau L H.next i = k
        · obtain ⟨i, hi, rfl⟩ := hk
          rw [Fin i hi, Option.map_eq_some_iff] at ho
          obtain ⟨o1, h4, h5⟩ := ho
          exact .inl ⟨i, o1, by rw [hτ], h4, by rw [← hτ]; exact h5.symm⟩
        · rw [Fout k (fun i hi e => hk ⟨i, hi, e⟩)] at ho
          split at ho
          · cases ho
          · rename_i hkL
            refine .inr ⟨fun i hi e => hkL ?_, ho⟩
            have hi' : i < L.length := by rw [hL]; exact hi
            rw [← e, hsg i hi']; exact List.getElem_mem hi'
      · cases ho
    · intro j i o hj ho
      have hi := List.mem_of_getElem? hj
      rw [hFget, if_pos (tI i hi), Fin i hi]
      have := hKI j i hj
      rw [ho] at this
      simp only [Option.some.injEq] at this
      rw [this]
    · intro k hk hkL
      rw [hFget, if_pos (by omega), Fout k ?_, if_neg hkL]
      intro i hi e
      rcases Nat.lt_or_ge i L.length with h1 | h1
      · rw [tlt i h1, hsg i h1] at e; exact hkL (by rw [← e]; exact List.getElem_mem h1)
      · rw [tge i h1] at e; omega
    · intro k o ho
      rw [hFget] at ho
      split at ho
      · by_cases hk : ∃ i ∈ I, tau L H.next i = k
        · obtain ⟨i, hi, rfl⟩ := hk
          rw [Fin i hi, Option.map_eq_some_iff] at ho
          obtain ⟨o1, h4, h5⟩ := ho
          obtain ⟨j, hj, e⟩ := List.getElem_of_mem hi
          have hj' : I[j]? = some i := by rw [List.getElem?_eq_getElem hj, e]
          exact .inr ⟨j, i, o1, hj', by rw [hKI j i hj', h4], rfl, h5.symm⟩
        · rw [Fout k (fun i hi e => hk ⟨i, hi, e⟩)] at ho
          split at ho
          · cases ho
          · rename_i hkL
            exact .inl ⟨hlt k o ho, hkL, ho⟩
      · cases ho
  rw [← hτ] at key
  exact key
theorem Heap.get_put {H : Heap} {b : Nat} {o : LO} (hb : b < big) (i : Nat) : (H.put b o).get i = if i = b then some o else H.get i := by
  show (H.m.set b (some o)).get i = _
  rw [Tr.get_set _ _ _ hb]; rfl
theorem LCalls.untok {b0 : Nat} {c : List Value} {t : TypeId} {ps : List Nat} (hl : H.lock = 0) (hcell : H.get b0 = some (.cells c t)) (hclean : ∀ i o, H.get i = some o → noTokO o = true)
    (hargs : noTokL args = true) (hps : (ps.all fun p => Nat.blt p c.length) = true) (h : LCalls P f args (H.put b0 (.cells (tokAt ps 0 c) t)) Q)
    (hQ : ∀ v K, Q v K → noTok v = true ∧ K.lock = 0 ∧ ∀ i o, K.get i = some o → tokOkO ps o = true) :
    LCalls P f args H (fun v K' => ∃ K, Q v K ∧ K'.next = K.next ∧ K'.lock = 0 ∧ ∀ i, K'.get i = (K.get i).map (unO c)) := by
  intro ρ args' w ha hr
  have hb0 : b0 < big := Nat.lt_trans (hr.ltn b0 _ hcell) hr.small
  have hget' := fun i => Heap.get_put (H := H) (o := .cells (tokAt ps 0 c) t) hb0 i
  obtain ⟨hro, b, o', hρ, hw, h0, c', hvl, rfl⟩ := hr.obj b0 _ hcell rfl
  have hnoc : noTokL c = true := hclean b0 _ hcell
  let τ : Nat → Value := fun p => (c'[p]?).getD undef
  have hτ : ∀ (q : Nat) v, c'[q]? = some v → τ (0 + q) = v := fun q v hq => by simp only [τ, Nat.zero_add, hq]; rfl
  have hrep : Rep (ρ.say τ) (H.put b0 (.cells (tokAt ps 0 c) t)) w := by
    have isS : ∀ j, ((H.put b0 (.cells (tokAt ps 0 c) t)).get j).isSome → (H.get j).isSome := by
      intro j hj
      rw [hget'] at hj
      by_cases e : j = b0
      · rw [e, hcell]; rfl
      · rw [if_neg e] at hj; exact hj
    refine ⟨hr.small, hr.dom, fun i j bb o hi ho hj e1 e2 => ?_, fun i o ho => ?_, fun i o ho hown => ?_, fun i k g n ho => ?_⟩
    · rw [hget'] at hi
      by_cases e : i = b0
      · subst e
        exact hr.inj i j bb _ hcell rfl (isS j hj) e1 e2
      · rw [if_neg e] at hi
        exact hr.inj i j bb o hi ho (isS j hj) e1 e2
    · rw [hget'] at ho
      by_cases e : i = b0
      · rw [e]; exact hr.ltn b0 _ hcell
      · rw [if_neg e] at ho; exact hr.ltn i o ho
    · rw [hget'] at ho
      by_cases e : i = b0
      · rw [if_pos e] at ho; simp only [Option.some.injEq] at ho; subst ho; subst e
        exact ⟨hro, b, _, hρ, hw, h0, c', tokAt_VRL 0 c c' hvl hnoc hτ, rfl⟩
      · rw [if_neg e] at ho
        obtain ⟨q1, q2, q3, q4, q5, q6⟩ := hr.obj i o ho hown
        exact ⟨q1, q2, q3, q4, q5, OR_say o q3 (hclean i o ho) q6⟩
    · rw [hget'] at ho
      by_cases e : i = b0
      · rw [if_pos e] at ho; cases ho
      · rw [if_neg e] at ho
        obtain ⟨q1, q2⟩ := hr.arg i k g n ho
        exact ⟨q1, AR_say q2⟩
  refine (h (ρ.say τ) args' w ((VRL_say args args' hargs).1 ha) hrep).mono ?_
  rintro e w' ⟨ρ', u, u', K, rfl, hq, hle, hfr, hv, hrK, hkp⟩
  obtain ⟨hnu, k3, h8⟩ := hQ u K hq
  have htok : ρ'.tok = τ := hle.tok
  have hle' : Ren.le ρ (ρ'.say ρ.tok) := ⟨fun i b hb => by have := hle i b hb; exact ⟨this.b, this.cap, this.ro, this.off, this.wd⟩, rfl⟩
  have hc : ∀ p, memB ps p = true → VR (ρ'.say ρ.tok) ((c[p]?).getD undef) (τ p) := by
    intro p hp
    have hpl : p < c.length := by
      have := List.all_eq_true.1 hps p ((memB_iff ps p).1 hp)
      simpa [Nat.blt_eq] using this
    obtain ⟨v', e1, e2⟩ := VRL.get hvl p (c[p]) (List.getElem?_eq_getElem hpl)
    have : τ p = v' := by simp only [τ, e1]; rfl
    rw [List.getElem?_eq_getElem hpl, this]
    exact VR.mono hle' _ _ e2
  have kget' : ∀ i, (ofF (fun i => (K.get i).map (unO c)) K.next).get i = (K.get i).map (unO c) := by
    intro i
    rw [ofF_get (Nat.le_of_lt hrK.small)]
    split
    · rfl
    · rename_i hi
      cases hx : K.get i with
      | none => rfl
      | some o => exact absurd (hrK.ltn i o hx) hi
  refine ⟨ρ'.say ρ.tok, u, u', ofF (fun i => (K.get i).map (unO c)) K.next, rfl, ⟨K, hq, rfl, rfl, kget'⟩, hle', fun i b hb => hfr i b hb, (VR_say u u' hnu).1 hv, ?_, ⟨hkp.os, hkp.tape, hkp.output, hkp.size, fun k hk hi => hkp.block k hk (fun i e => hi i e)⟩⟩
  have kget : ∀ i o, (ofF (fun i => (K.get i).map (unO c)) K.next).get i = some o → ∃ o1, K.get i = some o1 ∧ o = unO c o1 ∧ tokOkO ps o1 = true := by
    intro i o ho
    rw [kget', Option.map_eq_some_iff] at ho
    obtain ⟨o1, h1, h2⟩ := ho
    exact ⟨o1, h1, h2.symm, h8 i o1 h1⟩
  refine ⟨hrK.small, hrK.dom, fun i j b o hi ho hj e1 e2 => ?_, fun i o ho => ?_, fun i o ho hown => ?_, fun i k g n ho => ?_⟩
  · obtain ⟨o1, q1, rfl, _⟩ := kget i o hi
    obtain ⟨oj, hoj⟩ := Option.isSome_iff_exists.1 hj
    obtain ⟨o2, q2, _, _⟩ := kget j oj hoj
    exact hrK.inj i j b o1 q1 (by rw [← unO_own c]; exact ho) (by rw [q2]; rfl) e1 e2
  · obtain ⟨o1, q1, _, _⟩ := kget i o ho
    exact hrK.ltn i o1 q1
  · obtain ⟨o1, q1, rfl, q3⟩ := kget i o ho
    obtain ⟨r1, r2, r3, r4, r5, r6⟩ := hrK.obj i o1 q1 (by rw [← unO_own c]; exact hown)
    exact ⟨fun _ => r1 (by rw [k3]; exact Nat.zero_le _), r2, r3, r4, r5, unO_OR htok hc o1 r3 q3 r6⟩
  · obtain ⟨o1, q1, q2, q3⟩ := kget i _ ho
    have : o1 = .arg k g n := by cases o1 <;> simp [unO] at q2 <;> simp_all
    subst this
    obtain ⟨r1, r2⟩ := hrK.arg i k g n q1
    exact ⟨r1, AR_say r2⟩
end
end Go.Ly
end
