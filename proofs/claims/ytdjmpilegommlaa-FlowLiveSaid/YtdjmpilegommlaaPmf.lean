/- Part 6 of the texts that the law needs, laid together. By program (pack.py). -/
import Derived.Test.YtdjmpilegommlaaPme
import Derived.KernelRfl
set_option linter.unusedVariables false
set_option linter.unusedSimpArgs false
noncomputable section
namespace Go.Proofs.Ytdjmpilegommlaa
open Go Go.Ly Go.RowKit
def tXL (x : AB) : List (Nat × Value) := [(0, sls 0 x.k), (6, sl x.bo x.k), (7, aV x.k x.ba), (8, x.w), (9, .int .i64 x.i), (55, .int .i64 x.k), (56, .int .i64 x.i), (70, .int .i64 x.m), (71, .int .i64 x.j)]
theorem stF (x : AB) (H : Heap) : haltF [0, 6, 7, 8, 9, 55, 56, 70, 71] lvD (Ly.run cxL 0 [] (atSt Try.f14 laI none 1 (slots 156 (tIL x)) H)) = (true, [], true, (Try.f14, laI, none, 1), slots 156 (tXL x), H) := by kernel_rfl
theorem stF0 (k bo ba : Nat) (w : Value) (i : Int) (m : Nat) (j : Int) (t : Value) (H : Heap) : haltF [0, 6, 7, 8, 9, 55, 56, 70, 71] lvD (Ly.run cxL 0 [] (atSt Try.f14 laI none 1 (slots 156 (iAL k bo ba w i t m j)) H)) = (true, [], true, (Try.f14, laI, none, 1), slots 156 (tXL ⟨k, bo, ba, 0, m, i, j, 0, w⟩), H) := by kernel_rfl
section
variable {Q : Value → Heap → Prop} {H : Heap}
theorem stepX {x : AB} {b i : Nat} {l : List Nat} (hxw : x.w = liV b l) (hxi : x.i = (i : Int)) (hi : i < 1000000) (hjm : ¬ x.j < x.m) (hl : H.lock = 0) (hb : l ≠ [] → H.get b = some (inL (lg l) l.length)) (hlen : l.length ≤ 1000000) (hbig : H.next + 3 < big)
    (hs : ∀ K, K.lock = 0 → K.next = H.next + 2 → (∀ e, e < H.next → e ≠ b → K.get e = H.get e) → K.get (H.next + 1) = some (inL (lg (l ++ [i])) (l.length + 1)) →
      MWp Try.prog (atSt Try.f14 laK none 1 (slots 156 (hAL x.k x.bo x.ba (sl (H.next + 1) (l.length + 1)) ((i + 1 : Nat) : Int))) K) Q) :
    MWp Try.prog (atSt Try.f14 laI none 1 (slots 156 (tXL x)) H) Q := by
  obtain ⟨k, bo, ba, bt, m, xi, j, v, w⟩ := x
  obtain rfl : xi = (i : Int) := hxi
  obtain rfl : w = liV b l := hxw
  have hjd : decide (j < (m : Int)) = false := decide_eq_false hjm
  have hw : IntKind.i64.wrap ((i : Int) + 1) = ((i + 1 : Nat) : Int) := by rw [IntKind.wrap_i64]; omega
  rw [← hw] at hs
  have key : ∀ K : Heap, K.lock = 0 → K.next = H.next + 2 → (∀ e, e < H.next → e ≠ b → K.get e = H.get e) → ∀ o, K.get (H.next + 1) = some o → o.own = true → LOeq o (inL (lg (l ++ [i])) (l.length + 1)) →
      MWp Try.prog (atSt Try.f14 laK none 1 (slots 156 (hAL k bo ba (sl (H.next + 1) (l.length + 1)) (IntKind.i64.wrap ((i : Int) + 1)))) K) Q := by
    intro K kl kn kold o ko oo oe
    refine MWp.eqO ko oo oe (by omega) ?_
    have pg := fun o j => put_get (H := K) (show H.next + 1 < big by omega) o j
    exact hs _ kl kn (fun e h1 h2 => by rw [pg, if_neg (by omega)]; exact kold e h1 h2) (by rw [pg, if_pos rfl])
  cases hz : l with
  | nil =>
    subst hz
    refine liftL (lB' := hAL k bo ba (sl (H.next + 1) 1) (IntKind.i64.wrap ((i : Int) + 1))) [0, 6, 7, 8, 55, 56] [] [1] 2 20 [(0, false)] (sx1 i m j) (sxb1 i m j) (by simp only [trusted, hjd, and_self]) rfl (by simp) hl (by omega) (fun i b hi => by simp at hi) (pC tokI (pC tokI (pC tokI (pC (valI rfl rfl) (pC (valI rfl rfl) (pC tokI (pC (valI rfl rfl) (pC (valI rfl rfl) (pC (valI rfl rfl) (pN)))))))))) (pC (tokO (by decide) rfl) (pC (tokO (by decide) rfl) (pC (tokO (by decide) rfl) (pC (valO rfl rfl) (pC (tokO (by decide) rfl) (pC (valO rfl rfl) (pN))))))) ?_
    intro K kl kn kold kb
    obtain ⟨k0, kb⟩ := List.cons.inj kb
    exact key K kl kn (fun e h1 _ => kold e h1 (by simp)) _ k0 rfl (one_eq i)
  | cons y l' =>
    have hne : l ≠ [] := by rw [hz]; simp
    have hp : 1 ≤ l.length := by rw [hz]; simp
    have hob := hb hne
    rw [← hz, liV_ne hne]
    refine liftL (lB' := hAL k bo ba (sl (H.next + 1) (l.length + 1)) (IntKind.i64.wrap ((i : Int) + 1))) [0, 6, 7, 8, 55, 56] [b] [2] 3 20 [(0, false), (0, true)] (sx2 i m j (lg l) l.length) (sxb2 i m j (lg l) l.length) (by simp only [trusted, hjd, apT_true hp (show l.length ≤ 100000000 by omega), and_self]) rfl (by simp) hl hbig (fun i c hi => by
      rcases i with _ | i
      · simp at hi; subst hi; exact ⟨_, hob, fun o ho => by cases ho; rfl⟩
      · simp at hi) (pC tokI (pC tokI (pC tokI (pC (valI rfl rfl) (pC (valI rfl rfl) (pC tokI (pC (valI rfl rfl) (pC (valI rfl rfl) (pC (valI rfl rfl) (pN)))))))))) (pC (tokO (by decide) rfl) (pC (tokO (by decide) rfl) (pC (tokO (by decide) rfl) (pC (valO rfl rfl) (pC (tokO (by decide) rfl) (pC (valO rfl rfl) (pN))))))) ?_
    intro K kl kn kold kb
    obtain ⟨k0, kb⟩ := List.cons.inj kb
    exact key K kl kn (fun e h1 h2 => kold e h1 (by simp [h2])) _ k0 rfl (add_eq l i)
end
structure Bld (H : Heap) (a o n g : Nat → Int) (k bo ba bw : Nat) (c : List Value) (P : Nat → List Nat) (qs : Nat → Nat) (ws : List Nat) : Prop where
  lock : H.lock = 0
  nd : H.get 0 = some (ndL a o n k)
  out : H.get bo = some (inL g k)
  rows : H.get ba = some (.cells c 26)
  len : c.length = k
  cell : ∀ e, e < k → c[e]? = some (liV (qs e) (P e))
  row : ∀ e, e < k → P e ≠ [] → H.get (qs e) = some (inL (lg (P e)) (P e).length)
  rout : ∀ e, e < k → P e ≠ [] → qs e ≠ bo
  inj : ∀ e e', e < k → e' < k → P e ≠ [] → P e' ≠ [] → qs e = qs e' → e = e'
  work : ws ≠ [] → H.get bw = some (inL (lg ws) ws.length)
  wout : ws ≠ [] → bw ≠ bo
  wrow : ws ≠ [] → ∀ e, e < k → P e ≠ [] → qs e ≠ bw
structure BldT (H : Heap) (k bo bw bt : Nat) (P : Nat → List Nat) (qs : Nat → Nat) (ws T : List Nat) : Prop where
  get : H.get bt = some (inL (lg T) T.length)
  out : bt ≠ bo
  work : ws ≠ [] → bw ≠ bt
  row : ∀ e, e < k → P e ≠ [] → qs e ≠ bt
theorem nd_in {a o n g : Nat → Int} {k m : Nat} : ndL a o n k ≠ inL g m := by unfold ndL inL; intro h; cases h
theorem nd_ce {a o n : Nat → Int} {k : Nat} {c : List Value} {t : TypeId} : ndL a o n k ≠ .cells c t := by unfold ndL; intro h; cases h
theorem in_ce {g : Nat → Int} {m : Nat} {c : List Value} {t : TypeId} : inL g m ≠ .cells c t := by unfold inL; intro h; cases h
theorem get_ne {H : Heap} {i j : Nat} {x y : LO} (hi : H.get i = some x) (hj : H.get j = some y) (h : x ≠ y) : i ≠ j := fun e => h (by rw [e, hj] at hi; exact (Option.some.inj hi).symm)
def addF (P : Nat → List Nat) (v i : Nat) : Nat → List Nat := fun e => if e = v then P v ++ [i] else P e
def setF (q : Nat → Nat) (v b : Nat) : Nat → Nat := fun e => if e = v then b else q e
section
variable {Q : Value → Heap → Prop} {H : Heap} {a o n g : Nat → Int} {k bo ba bw bt : Nat} {c : List Value} {P : Nat → List Nat} {qs : Nat → Nat} {ws T : List Nat}
theorem bld_row {w : Value} {i j v : Nat} (hB : Bld H a o n g k bo ba bw c P qs ws) (hT : BldT H k bo bw bt P qs ws T) (hk : k ≤ 1000) (hj : j < T.length) (hv : T[j]? = some v) (hvk : v < k) (hlen : (P v).length ≤ 1000000) (hTl : T.length ≤ 1000000) (hbig : H.next + 4 < big)
    (hs : ∀ K c' qs', K.next = H.next + 2 → Bld K a o n g k bo ba bw c' (addF P v i) qs' ws → BldT K k bo bw bt (addF P v i) qs' ws T →
      MWp Try.prog (atSt Try.f14 laI none 1 (slots 156 (tIL ⟨k, bo, ba, bt, T.length, i, ((j + 1 : Nat) : Int), v, w⟩)) K) Q) :
    MWp Try.prog (atSt Try.f14 laI none 1 (slots 156 (tIL ⟨k, bo, ba, bt, T.length, i, (j : Int), v, w⟩)) H) Q := by
  refine MWp.ltn (fun (hlt : ∀ i o, H.get i = some o → i < H.next) (hsm : H.next < big) => ?_)
  obtain ⟨b, hb1, hb2, hb3⟩ : ∃ b, liV (qs v) (P v) = liV b (P v) ∧ (P v ≠ [] → b = qs v) ∧ (P v = [] → b = H.next) := by
    by_cases h : P v = []
    · exact ⟨H.next, by rw [h]; rfl, fun h' => absurd h h', fun _ => rfl⟩
    · exact ⟨qs v, rfl, fun _ => rfl, fun h' => absurd h' h⟩
  have l0 := hlt _ _ hB.nd
  have lo := hlt _ _ hB.out
  have la := hlt _ _ hB.rows
  have lt := hlt _ _ hT.get
  have nb : ∀ x y, H.get x = some y → (∀ f m, y ≠ inL f m) → x ≠ b := fun x y hx hy => by
    by_cases h : P v = []
    · rw [hb3 h]; have := hlt _ _ hx; omega
    · rw [hb2 h]; exact get_ne hx (hB.row v hvk h) (hy _ _)
  have n0 : 0 ≠ b := nb _ _ hB.nd fun f m => nd_in
  have na : ba ≠ b := nb _ _ hB.rows fun f m h => in_ce h.symm
  have no : bo ≠ b := by
    by_cases h : P v = []
    · rw [hb3 h]; omega
    · rw [hb2 h]; exact (hB.rout v hvk h).symm
  have nt : bt ≠ b := by
    by_cases h : P v = []
    · rw [hb3 h]; omega
    · rw [hb2 h]; exact (hT.row v hvk h).symm
  have nw : ws ≠ [] → bw ≠ b := fun hw => by
    by_cases h : P v = []
    · rw [hb3 h]; have := hlt _ _ (hB.work hw); omega
    · rw [hb2 h]; exact (hB.wrow hw v hvk h).symm
  have nr : ∀ e, e < k → e ≠ v → P e ≠ [] → qs e ≠ b := fun e he hev hP => by
    by_cases h : P v = []
    · rw [hb3 h]; have := hlt _ _ (hB.row e he hP); omega
    · rw [hb2 h]; exact fun h2 => hev (hB.inj e v he hvk hP h h2)
  refine stepRow (x := ⟨k, bo, ba, bt, T.length, i, (j : Int), v, w⟩) (b := b) (v := v) (i := i) (l := P v) (c := c) (T := T) (j := j) hk hj hv hvk rfl rfl rfl hB.lock hT.get hB.rows hB.len (by rw [hB.cell v hvk, hb1]) (fun h => by rw [hb2 h]; exact hB.row v hvk h) na.symm hlen hTl hbig ?_
  intro K kl kn kold kr kc
  have na0 : (0 : Nat) ≠ ba := get_ne hB.nd hB.rows nd_ce
  have nao : bo ≠ ba := get_ne hB.out hB.rows in_ce
  have naw : ws ≠ [] → bw ≠ ba := fun h => get_ne (hB.work h) hB.rows in_ce
  have nat : bt ≠ ba := get_ne hT.get hB.rows in_ce
  refine hs K (c.set v (sl (H.next + 1) ((P v).length + 1))) (setF qs v (H.next + 1)) kn ?_ ?_
  · refine ⟨kl, by rw [kold 0 l0 n0 na0]; exact hB.nd, by rw [kold bo lo no nao]; exact hB.out, kc, by rw [List.length_set]; exact hB.len, fun e he => ?_, fun e he hP => ?_, fun e he hP => ?_, fun e e' he he' hP hP' h => ?_, fun h => ?_, hB.wout, fun h e he hP => ?_⟩
    · rw [List.getElem?_set]
      by_cases h : v = e
      · subst h
        rw [if_pos rfl, if_pos (by rw [hB.len]; exact hvk)]
        unfold setF addF; rw [if_pos rfl, if_pos rfl, liV_ne (by simp), List.length_append]; rfl
      · rw [if_neg h, hB.cell e he]; unfold setF addF; rw [if_neg (Ne.symm h), if_neg (Ne.symm h)]
    · by_cases h : e = v
      · subst h; unfold setF addF; rw [if_pos rfl, if_pos rfl, List.length_append]; exact kr
      · unfold setF addF; unfold addF at hP
        rw [if_neg h] at hP
        rw [if_neg h, if_neg h]
        rw [kold _ (hlt _ _ (hB.row e he hP)) (nr e he h hP) (get_ne (hB.row e he hP) hB.rows in_ce)]
        exact hB.row e he hP
    · unfold setF
      by_cases h : e = v
      · rw [if_pos h]; omega
      · rw [if_neg h]; unfold addF at hP; rw [if_neg h] at hP; exact hB.rout e he hP
    · unfold addF at hP hP'
      unfold setF at h
      by_cases h1 : e = v
      · by_cases h2 : e' = v
        · rw [h1, h2]
        · rw [if_pos h1, if_neg h2] at h
          rw [if_neg h2] at hP'
          have := hlt _ _ (hB.row e' he' hP')
          omega
      · rw [if_neg h1] at hP
        by_cases h2 : e' = v
        · rw [if_neg h1, if_pos h2] at h
          have := hlt _ _ (hB.row e he hP)
          omega
        · rw [if_neg h2] at hP'
          rw [if_neg h1, if_neg h2] at h
          exact hB.inj e e' he he' hP hP' h
    · rw [kold _ (hlt _ _ (hB.work h)) (nw h) (naw h)]; exact hB.work h
    · unfold setF
      by_cases h1 : e = v
      · rw [if_pos h1]; have := hlt _ _ (hB.work h); omega
      · rw [if_neg h1]; unfold addF at hP; rw [if_neg h1] at hP; exact hB.wrow h e he hP
  · refine ⟨by rw [kold bt lt nt nat]; exact hT.get, hT.out, hT.work, fun e he hP => ?_⟩
    unfold setF
    by_cases h1 : e = v
    · rw [if_pos h1]; omega
    · rw [if_neg h1]; unfold addF at hP; rw [if_neg h1] at hP; exact hT.row e he hP
end
end Go.Proofs.Ytdjmpilegommlaa
namespace Go.Proofs.Ytdjmpilegommlaa
open Go Go.Ly Go.RowKit
theorem toL_nodup (a o n : Nat → Int) (k i : Nat) : (toL a o n k i).Nodup := by
  have h := nxl_F k (sh a) (sh o) (sh n) (i : Int)
  unfold toL
  have h3 : (nxS a o n k i).1.Nodup := h.2.2
  have h2 : ∀ x ∈ (nxS a o n k i).1, 0 ≤ x ∧ x < k := h.2.1
  revert h2 h3
  generalize (nxS a o n k i).1 = l
  intro h3 h2
  induction l with
  | nil => simp
  | cons y r ih =>
    rw [List.nodup_cons] at h3
    rw [List.map_cons, List.nodup_cons]
    refine ⟨fun hm => ?_, ih h3.2 fun x hx => h2 x (List.mem_cons_of_mem _ hx)⟩
    obtain ⟨x, hx, e⟩ := List.mem_map.1 hm
    have h4 := (h2 x (List.mem_cons_of_mem _ hx)).1
    have h5 := (h2 y (List.mem_cons_self ..)).1
    have : x = y := by omega
    subst this; exact h3.1 hx
def rwT (P : Nat → List Nat) (T : List Nat) (i j : Nat) : Nat → List Nat := fun e => if e ∈ T.take j then P e ++ [i] else P e
theorem rwT_0 (P : Nat → List Nat) (T : List Nat) (i : Nat) : rwT P T i 0 = P := by funext e; simp [rwT]
theorem rwT_s {P : Nat → List Nat} {T : List Nat} {i j v : Nat} (hn : T.Nodup) (hv : T[j]? = some v) : addF (rwT P T i j) v i = rwT P T i (j + 1) := by
  have ht : T.take (j + 1) = T.take j ++ [v] := by rw [List.take_add_one, hv]; rfl
  have hj : j < T.length := by
    rcases Nat.lt_or_ge j T.length with h | h
    · exact h
    · rw [List.getElem?_eq_none h] at hv; cases hv
  have hnot : v ∉ T.take j := by
    intro h
    have h1 : (T.take (j + 1)).Nodup := hn.sublist (List.take_sublist _ _)
    rw [ht, List.nodup_append] at h1
    exact h1.2.2 v h v (by simp) rfl
  funext e
  unfold addF rwT
  rw [ht]
  by_cases h : e = v
  · subst h; rw [if_pos rfl, if_neg hnot, if_pos (by simp)]
  · rw [if_neg h]
    by_cases h2 : e ∈ T.take j
    · rw [if_pos h2, if_pos (by simp [h2])]
    · rw [if_neg h2, if_neg (by simp [h2, h])]
section
variable {Q : Value → Heap → Prop} {H : Heap} {a o n g : Nat → Int} {k bo ba bw bt : Nat} {c : List Value} {P : Nat → List Nat} {qs : Nat → Nat} {ws T : List Nat}
theorem bld_in {w : Value} {i : Nat} (hk : k ≤ 1000) (hT2 : T.length ≤ 2) (hTn : T.Nodup) (hTk : ∀ v ∈ T, v < k) (hP : ∀ e, (P e).length ≤ 100000) : ∀ (d j : Nat) (H : Heap) (c : List Value) (qs : Nat → Nat), j + d = T.length → Bld H a o n g k bo ba bw c (rwT P T i j) qs ws → BldT H k bo bw bt (rwT P T i j) qs ws T → H.next + 2 * d + 4 < big →
    (∀ K c' qs', K.next = H.next + 2 * d → Bld K a o n g k bo ba bw c' (rwT P T i T.length) qs' ws → MWp Try.prog (atSt Try.f14 laI none 1 (slots 156 (tIL ⟨k, bo, ba, bt, T.length, i, (T.length : Int), 0, w⟩)) K) Q) →
    MWp Try.prog (atSt Try.f14 laI none 1 (slots 156 (tIL ⟨k, bo, ba, bt, T.length, i, (j : Int), 0, w⟩)) H) Q
  | 0, j, H, c, qs, hd, hB, hT, hbig, hs => by
    obtain rfl : j = T.length := by omega
    exact hs H c qs (by omega) hB
  | d + 1, j, H, c, qs, hd, hB, hT, hbig, hs => by
    have hj : j < T.length := by omega
    have hv : T[j]? = some T[j] := List.getElem?_eq_getElem hj
    refine bld_row (w := w) (i := i) (v := T[j]) hB hT hk hj hv (hTk _ (List.getElem_mem hj)) ?_ (by omega) (by omega) ?_
    · unfold rwT; have := hP T[j]; split
      · rw [List.length_append, List.length_singleton]; omega
      · omega
    · intro K c' qs' kn hB' hT'
      rw [rwT_s hTn hv] at hB' hT'
      exact bld_in hk hT2 hTn hTk hP d (j + 1) K c' qs' (by omega) hB' hT' (by omega) (fun M c'' qs'' mn hB'' => hs M c'' qs'' (by omega) hB'')
def og (a o n : Nat → Int) (k i : Nat) : Nat → Int := fun e => bif Nat.blt e i && opL a o n k e then 31 else 0
theorem og_s (a o n : Nat → Int) (k i : Nat) : outA (og a o n k i) i (opL a o n k i) = og a o n k (i + 1) := by
  funext e
  unfold outA og
  by_cases h : e = i
  · subst h
    rw [show Nat.blt e e = false from Bool.eq_false_iff.2 fun h => by rw [Nat.blt_eq] at h; omega, show Nat.blt e (e + 1) = true by rw [Nat.blt_eq]; omega, Nat.beq_refl]
    cases opL a o n k e <;> rfl
  · rw [show Nat.beq e i = false from Bool.eq_false_iff.2 fun h' => h (Nat.eq_of_beq_eq_true h'), Bool.and_false, cond_false]
    by_cases h2 : e < i
    · rw [show Nat.blt e i = true by rw [Nat.blt_eq]; exact h2, show Nat.blt e (i + 1) = true by rw [Nat.blt_eq]; omega]
    · rw [show Nat.blt e i = false from Bool.eq_false_iff.2 fun h => by rw [Nat.blt_eq] at h; omega, show Nat.blt e (i + 1) = false from Bool.eq_false_iff.2 fun h => by rw [Nat.blt_eq] at h; omega]
theorem bld_work {K : Heap} {i nb bw' : Nat} {P : Nat → List Nat} (hB : Bld H a o n g k bo ba bw c P qs ws) (hlt : ∀ i o, H.get i = some o → i < H.next) (kl : K.lock = 0) (hnb : H.next ≤ nb) (kold : ∀ e, e < H.next → e ≠ bw' → K.get e = H.get e)
    (hw : (ws = [] ∧ bw' = H.next) ∨ (ws ≠ [] ∧ bw' = bw)) (kr : K.get nb = some (inL (lg (ws ++ [i])) (ws.length + 1))) : Bld K a o n g k bo ba nb c P qs (ws ++ [i]) := by
  have l0 := hlt _ _ hB.nd
  have lo := hlt _ _ hB.out
  have la := hlt _ _ hB.rows
  have nb' : ∀ x y, H.get x = some y → (∀ f m, y ≠ inL f m) → x ≠ bw' := fun x y hx hy => by
    rcases hw with ⟨h, rfl⟩ | ⟨h, rfl⟩
    · have := hlt _ _ hx; omega
    · exact get_ne hx (hB.work h) (hy _ _)
  have no : bo ≠ bw' := by
    rcases hw with ⟨h, rfl⟩ | ⟨h, rfl⟩
    · omega
    · exact (hB.wout h).symm
  have nr : ∀ e, e < k → P e ≠ [] → qs e ≠ bw' := fun e he hP => by
    rcases hw with ⟨h, rfl⟩ | ⟨h, rfl⟩
    · have := hlt _ _ (hB.row e he hP); omega
    · exact hB.wrow h e he hP
  refine ⟨kl, by rw [kold 0 l0 (nb' _ _ hB.nd fun f m => nd_in)]; exact hB.nd, by rw [kold bo lo no]; exact hB.out, by rw [kold ba la (nb' _ _ hB.rows fun f m h => in_ce h.symm)]; exact hB.rows, hB.len, hB.cell,
    fun e he hP => by rw [kold _ (hlt _ _ (hB.row e he hP)) (nr e he hP)]; exact hB.row e he hP, hB.rout, hB.inj, fun _ => by rw [List.length_append]; exact kr, fun _ => by omega, fun _ e he hP => ?_⟩
  have := hlt _ _ (hB.row e he hP); omega
theorem bld_node {i : Nat} (hB : Bld H a o n g k bo ba bw c P qs ws) (hi : i < k) (hk : k ≤ 100) (ho : ∀ e, e < k → inb (o e) = true) (hwl : ws.length ≤ 1000000) (hP : ∀ e, (P e).length ≤ 100000) (hbo0 : bo ≠ 0) (hbig : H.next + 20 < big)
    (hs : ∀ K c' qs' nb, K.next ≤ H.next + 7 → Bld K a o n (outA g i (opL a o n k i)) k bo ba nb c' (rwT P (toL a o n k i) i (toL a o n k i).length) qs' (ws ++ [i]) → MWp Try.prog (atSt Try.f14 laK none 1 (slots 156 (hAL k bo ba (sl nb (ws.length + 1)) ((i + 1 : Nat) : Int))) K) Q) :
    MWp Try.prog (atSt Try.f14 laK none 1 (slots 156 (hAL k bo ba (liV bw ws) i)) H) Q := by
  refine MWp.ltn (fun (hlt : ∀ i o, H.get i = some o → i < H.next) (hsm : H.next < big) => ?_)
  have l0 := hlt _ _ hB.nd
  have lo := hlt _ _ hB.out
  have la := hlt _ _ hB.rows
  refine stepA1 hi hk ho hB.lock hB.nd hB.out hbo0 (by omega) ?_
  intro K kl kn kold k0 kbo kt
  have hold : ∀ x y, H.get x = some y → x ≠ 0 → x ≠ bo → K.get x = some y := fun x y hx h1 h2 => by rw [kold x (hlt _ _ hx) h1 h2]; exact hx
  have hB1 : Bld K a o n (outA g i (opL a o n k i)) k bo ba bw c P qs ws :=
    ⟨kl, k0, kbo, hold _ _ hB.rows (get_ne hB.nd hB.rows nd_ce).symm (get_ne hB.out hB.rows in_ce).symm, hB.len, hB.cell, fun e he h => hold _ _ (hB.row e he h) (get_ne hB.nd (hB.row e he h) nd_in).symm (hB.rout e he h), hB.rout, hB.inj,
      fun h => hold _ _ (hB.work h) (get_ne hB.nd (hB.work h) nd_in).symm (hB.wout h), hB.wout, hB.wrow⟩
  -- the end: the worklist
  have hend : ∀ (M : Heap) (c' : List Value) (qs' : Nat → Nat) (P' : Nat → List Nat) (bt m : Nat) (j : Int), ¬ j < m → M.next ≤ H.next + 5 → Bld M a o n (outA g i (opL a o n k i)) k bo ba bw c' P' qs' ws → P' = rwT P (toL a o n k i) i (toL a o n k i).length →
      MWp Try.prog (atSt Try.f14 laI none 1 (slots 156 (tXL ⟨k, bo, ba, bt, m, i, j, 0, liV bw ws⟩)) M) Q := by
    intro M c' qs' P' bt m j hjm mn hM hP'
    subst hP'
    refine MWp.ltn (fun (mlt : ∀ i o, M.get i = some o → i < M.next) (msm : M.next < big) => ?_)
    obtain ⟨b, e1, e2, e3⟩ : ∃ b, liV bw ws = liV b ws ∧ (ws ≠ [] → b = bw) ∧ (ws = [] → b = M.next) := by
      by_cases h : ws = []
      · exact ⟨M.next, by rw [h]; rfl, fun h' => absurd h h', fun _ => rfl⟩
      · exact ⟨bw, rfl, fun _ => rfl, fun h' => absurd h' h⟩
    refine stepX (x := ⟨k, bo, ba, bt, m, i, j, 0, liV bw ws⟩) (b := b) (i := i) (l := ws) e1 rfl (by omega) hjm hM.lock (fun h => by rw [e2 h]; exact hM.work h) hwl (by omega) ?_
    intro J jl jn jold jr
    refine hs J c' qs' (M.next + 1) (by omega) (bld_work (bw' := b) hM mlt jl (by omega) jold ?_ jr)
    by_cases h : ws = []
    · exact .inl ⟨h, e3 h⟩
    · exact .inr ⟨h, e2 h⟩
  by_cases hm : nxM a o n k i = 0
  · have ht : toL a o n k i = [] := List.eq_nil_of_length_eq_zero (by rw [toL_len]; exact hm)
    refine MWp.halted cxL_ok _ _ _ (stF0 k bo ba (liV bw ws) i (nxM a o n k i) 0 _ K) trivial ?_
    refine hend K c qs P 0 _ _ (by rw [hm]; decide) (by omega) hB1 ?_
    rw [ht]; exact (rwT_0 P [] i).symm
  · have kt := kt hm
    rw [toL_g, ← toL_len] at kt
    rw [show toV H.next (nxM a o n k i) = sl H.next (toL a o n k i).length by unfold toV; rw [show Nat.beq (nxM a o n k i) 0 = false from Bool.eq_false_iff.2 fun h => hm (Nat.eq_of_beq_eq_true h), toL_len]; rfl, ← toL_len]
    have hT : BldT K k bo bw H.next (rwT P (toL a o n k i) i 0) qs ws (toL a o n k i) := by
      rw [rwT_0]
      refine ⟨kt, by omega, fun h => ?_, fun e he h => ?_⟩
      · have := hlt _ _ (hB.work h); omega
      · have := hlt _ _ (hB.row e he h); omega
    have h2 := toL_two a o n k i
    refine bld_in (i := i) (w := liV bw ws) (bt := H.next) (by omega) h2 (toL_nodup a o n k i) (fun v hv => toL_in hv) hP (toL a o n k i).length 0 K c qs (by omega) (by rw [rwT_0]; exact hB1) hT (by omega) ?_
    intro M c' qs' mn hM
    refine MWp.halted cxL_ok _ _ _ (stF ⟨k, bo, ba, H.next, (toL a o n k i).length, i, ((toL a o n k i).length : Int), 0, liV bw ws⟩ M) trivial ?_
    exact hend M c' qs' _ _ _ _ (by omega) (by omega) hM rfl
theorem bld_all (hk : k ≤ 100) (ho : ∀ e, e < k → inb (o e) = true) (hbo0 : bo ≠ 0) (hs : ∀ K c qs bw P, K.next ≤ 10000 → Bld K a o n (og a o n k k) k bo ba bw c P qs (List.range k) → (∀ e x, x ∈ P e ↔ x < k ∧ e ∈ toL a o n k x) → (∀ e, (P e).length ≤ k) →
      MWp Try.prog (atSt Try.f14 laK none 1 (slots 156 (hAL k bo ba (liV bw (List.range k)) (k : Nat))) K) Q) :
    ∀ (d i : Nat) (H : Heap) (c : List Value) (qs : Nat → Nat) (bw : Nat) (P : Nat → List Nat), i + d = k → H.next + 7 * d ≤ 10000 → Bld H a o n (og a o n k i) k bo ba bw c P qs (List.range i) → (∀ e x, x ∈ P e ↔ x < i ∧ e ∈ toL a o n k x) → (∀ e, (P e).length ≤ i) →
    MWp Try.prog (atSt Try.f14 laK none 1 (slots 156 (hAL k bo ba (liV bw (List.range i)) i)) H) Q
  | 0, i, H, c, qs, bw, P, hd, hn, hB, hP, hl => by
    obtain rfl : i = k := by omega
    exact hs H c qs bw P (by omega) hB hP hl
  | d + 1, i, H, c, qs, bw, P, hd, hn, hB, hP, hl => by
    refine bld_node hB (by omega) hk ho (by rw [List.length_range]; omega) (fun e => by have := hl e; omega) hbo0 (by unfold big; omega) ?_
    intro K c' qs' nb kn hK
    rw [og_s, ← List.range_succ] at hK
    have hne : List.range (i + 1) ≠ [] := by rw [List.range_succ]; simp
    have := bld_all hk ho hbo0 hs d (i + 1) K c' qs' nb _ (by omega) (by omega) hK (fun e x => ?_) (fun e => ?_)
    · rw [liV_ne hne] at this
      rw [List.length_range] at this ⊢
      exact this
    · unfold rwT
      rw [List.take_length]
      split
      · rename_i h
        rw [List.mem_append, hP, List.mem_singleton]
        constructor
        · rintro (⟨h1, h2⟩ | rfl)
          · exact ⟨by omega, h2⟩
          · exact ⟨by omega, h⟩
        · rintro ⟨h1, h2⟩
          by_cases hx : x = i
          · exact .inr hx
          · exact .inl ⟨by omega, h2⟩
      · rename_i h
        rw [hP]
        constructor
        · rintro ⟨h1, h2⟩; exact ⟨by omega, h2⟩
        · rintro ⟨h1, h2⟩
          refine ⟨?_, h2⟩
          by_cases hx : x = i
          · subst hx; exact absurd h2 h
          · omega
    · unfold rwT
      have := hl e
      split
      · rw [List.length_append, List.length_singleton]; omega
      · omega
end
end Go.Proofs.Ytdjmpilegommlaa
namespace Go.Proofs.Ytdjmpilegommlaa
open Go Go.Ly Go.RowKit
def laW : List KI := ((Ly.run cxL 9 [(0, false)] (atSt Try.f14 laK none 1 (slots 156 (hAL 0 0 0 (.slice none 0 0) 0)) H0)).st lvD).top.k
def wAL (k bo ba : Nat) (w : Value) : List (Nat × Value) := [(0, sls 0 k), (6, sl bo k), (7, aV k ba), (8, w)]
theorem stW (k bo ba : Nat) (w : Value) (i : Int) (H : Heap) : haltF [0, 6, 7, 8] lvD (Ly.run cxL 9 [(0, false)] (atSt Try.f14 laK none 1 (slots 156 (hAL k bo ba w i)) H)) = (true, [(decide (i < k), false)], true, (Try.f14, laW, none, 1), slots 156 (wAL k bo ba w), H) := by kernel_rfl
def w1L (w : Value) : List (Nat × Value) := [(0, tokV 0), (6, tokV 6), (7, tokV 7), (8, w)]
def w2L (w : Value) (v : Int) : List (Nat × Value) := [(0, tokV 0), (6, tokV 6), (7, tokV 7), (8, w), (14, .int .i64 v)]
def pW0 : Path := [(0, true), (0, true), (0, true), (0, true)]
def pW1 : Path := [(0, true), (0, true), (0, true), (0, false), (0, true)]
def m1 (m : Nat) : Int := IntKind.i64.wrap ((m : Int) - 1)
def rW (p : Path) (g : Nat → Int) (m : Nat) : RO := Ly.run cxL 28 p (mkSt Try.f14 laW none 1 (slots 156 (w1L (sl 0 m))) [some (inL g m)])
def laX : List KI := ((rW pW0 zF 0).st lvD).top.k
def wT (m : Nat) (l : List (Bool × Bool)) : List (Bool × Bool) := (decide ((0 : Int) < m), true) :: (ixB m (m1 m), true) :: (Nat.blt (0 + (m1 m).toNat * 1) m, true) :: l
def wE (m : Nat) : Bool := decide (m1 m = 0) && (!(Nat.beq m 0) && (Nat.beq 0 0 && Nat.beq 18446744073709551616 18446744073709551616))
theorem sw0 (g : Nat → Int) (m : Nat) : headAt [0, 6, 7, 8, 14] [0] lvD (rW pW0 g m) = (true, wT m [(wE m, true)], true, (Try.f14, laX, none, 1), slots 156 (w2L (emV 0) (gA g (m1 m))), [some (inL g m)]) := by kernel_rfl
theorem sw1 (g : Nat → Int) (m : Nat) : headAt [0, 6, 7, 8, 14] [0] lvD (rW pW1 g m) = (true, wT m [(wE m, false), (decide ((0 : Int) ≤ 0) && (decide (0 ≤ m1 m) && decide (m1 m ≤ m)), true)], true, (Try.f14, laX, none, 1), slots 156 (w2L (sl 0 ((m1 m).toNat - 0)) (gA g (m1 m))), [some (inL g m)]) := by kernel_rfl
theorem swb0 (g : Nat → Int) (m : Nat) : liftB [0] [some (inL g m)] [some (inL g m)] 1 lvD (rW pW0 g m) = true := by kernel_rfl
theorem swb1 (g : Nat → Int) (m : Nat) : liftB [0] [some (inL g m)] [some (inL g m)] 1 lvD (rW pW1 g m) = true := by kernel_rfl
def w3L (k : Nat) (i : Int) : List (Nat × Value) := [(0, sls 0 k), (6, sl 1 k), (7, tokV 7), (8, tokV 8), (14, .int .i64 i)]
def inF (o g : Nat → Int) (i : Int) : Int := bits .or .i64 (usesT (xO o i)) (bits .andNot .i64 (gA g i) (setsT (xO o i)))
def w4L (k : Nat) (i v : Int) : List (Nat × Value) := [(0, sls 0 k), (6, sl 1 k), (7, tokV 7), (8, tokV 8), (14, .int .i64 i), (15, .int .i64 v)]
def p8 : Path := [(0, true), (0, true), (0, true), (0, true), (0, true), (0, true), (0, true), (0, true)]
def rX1 (a o n g : Nat → Int) (k : Nat) (i : Int) : RO := Ly.run cxL 3 p8 (mkSt Try.f14 laX none 1 (slots 156 (w3L k i)) [some (ndL a o n k), some (inL g k)])
def laY : List KI := ((rX1 zF zF zF zF 0 0).st lvD).top.k
def xT (o : Nat → Int) (k : Nat) (i : Int) : List (Bool × Bool) := [(ixB k i, true), (Nat.blt (0 + i.toNat) k, true), (inb (xO o i), true), (ixB k i, true), (Nat.blt (0 + i.toNat * 1) k, true), (ixB k i, true), (Nat.blt (0 + i.toNat) k, true), (inb (xO o i), true)]
theorem sX1 (a o n g : Nat → Int) (k : Nat) (i : Int) : headAt [0, 6, 7, 8, 14, 15] [0, 1] lvD (rX1 a o n g k i) = (true, xT o k i, true, (Try.f14, laY, none, 1), slots 156 (w4L k i (inF o g i)), [some (ndL a o n k), some (inL g k)]) := by kernel_rfl
theorem sXb (a o n g : Nat → Int) (k : Nat) (i : Int) : liftB [0, 1] [some (ndL a o n k), some (inL g k)] [some (ndL a o n k), some (inL g k)] 2 lvD (rX1 a o n g k i) = true := by kernel_rfl
def w5L (k bo ba : Nat) (w : Value) (i v : Int) : List (Nat × Value) := [(0, sls 0 k), (6, sl bo k), (7, aV k ba), (8, w), (14, .int .i64 i), (15, .int .i64 v)]
def w6L (k bo ba : Nat) (w : Value) (i v : Int) : List (Nat × Value) := [(0, sls 0 k), (6, sl bo k), (7, aV k ba), (8, w), (14, .int .i64 i), (15, .int .i64 v), (125, .pointer (some ⟨ba, 0 + i.toNat * 1, none⟩))]
def laZ : List KI := ((Ly.run cxL 4 [(0, true)] (atSt Try.f14 laY none 1 (slots 156 (w5L 0 0 0 (.slice none 0 0) 0 0)) H0)).st lvD).top.k
theorem stZ (k bo ba : Nat) (w : Value) (i v : Int) (H : Heap) : haltF [0, 6, 7, 8, 14, 15, 125] lvD (Ly.run cxL 4 [(0, true)] (atSt Try.f14 laY none 1 (slots 156 (w5L k bo ba w i v)) H)) = (true, [(ixB k i, true)], true, (Try.f14, laZ, none, 1), slots 156 (w6L k bo ba w i v), H) := by kernel_rfl
def sZ (k bo ba : Nat) (w : Value) (i v : Int) (H : Heap) : St := atSt Try.f14 laZ none 1 (slots 156 (w6L k bo ba w i v)) H
theorem stL (k bo ba : Nat) (w : Value) (i v : Int) (H : Heap) : evAt cxL.toEnv (sZ k bo ba w i v H) = some (evLoad cxL.toEnv H 26 (.pointer (some ⟨ba, 0 + i.toNat * 1, none⟩))) := by kernel_rfl
def laJ : List KI := ((Ly.run cxL 5 [] (behind (sZ 0 0 0 (.slice none 0 0) 0 0 H0) (sl 0 0) H0)).st lvD).top.k
def w7L (k bo ba : Nat) (w : Value) (v : Int) (r : Value) (q : Nat) (j : Int) : List (Nat × Value) := [(0, sls 0 k), (6, sl bo k), (7, aV k ba), (8, w), (15, .int .i64 v), (126, r), (127, .int .i64 q), (128, .int .i64 j)]
theorem stJ (k bo ba : Nat) (w : Value) (i v : Int) (b q : Nat) (H : Heap) : haltF [0, 6, 7, 8, 15, 126, 127, 128] lvD (Ly.run cxL 5 [] (behind (sZ k bo ba w i v H) (sl b q) H)) = (true, [], true, (Try.f14, laJ, none, 1), slots 156 (w7L k bo ba w v (sl b q) q 0), H) := by kernel_rfl
theorem stJ0 (k bo ba : Nat) (w : Value) (i v : Int) (H : Heap) : haltF [0, 6, 7, 8, 15, 126, 127, 128] lvD (Ly.run cxL 5 [] (behind (sZ k bo ba w i v H) (.slice none 0 0) H)) = (true, [], true, (Try.f14, laJ, none, 1), slots 156 (w7L k bo ba w v (.slice none 0 0) 0 0), H) := by kernel_rfl
theorem stG (k bo ba : Nat) (w : Value) (v : Int) (r : Value) (q : Nat) (j : Int) (H : Heap) : haltF [0, 6, 7, 8] lvD (Ly.run cxL 10 [(0, false)] (atSt Try.f14 laJ none 1 (slots 156 (w7L k bo ba w v r q j)) H)) = (true, [(decide (j < q), false)], true, (Try.f14, laW, none, 1), slots 156 (wAL k bo ba w), H) := by kernel_rfl
def j1L (k q : Nat) (v j : Int) (w : Value) : List (Nat × Value) := [(0, tokV 0), (6, sl 1 k), (7, tokV 7), (8, w), (15, .int .i64 v), (126, sl 0 q), (127, .int .i64 q), (128, .int .i64 j)]
def rJ (f : Nat) (p : Path) (os : List (Option LO)) (k q : Nat) (v j : Int) (w : Value) : RO := Ly.run cxL f p (mkSt Try.f14 laJ none 1 (slots 156 (j1L k q v j w)) os)
def jE (g : Nat → Int) (x v : Int) : Bool := bits .or .i64 (gA g x) v == gA g x
def jT (g : Nat → Int) (k q : Nat) (x j : Int) (l : List (Bool × Bool)) : List (Bool × Bool) := (decide (j < q), true) :: (ixB q j, true) :: (Nat.blt (0 + j.toNat * 1) q, true) :: (ixB k x, true) :: (Nat.blt (0 + x.toNat * 1) k, true) :: (ixB k x, true) :: (Nat.blt (0 + x.toNat * 1) k, true) :: l
def pJ (l : Path) : Path := (0, true) :: (0, true) :: (0, true) :: (0, true) :: (0, true) :: (0, true) :: (0, true) :: l
def jW (j : Int) : Int := IntKind.i64.wrap (j + 1)
theorem sJ0 (p g : Nat → Int) (k q : Nat) (v j : Int) : headAt [0, 6, 7, 8, 15, 126, 127, 128] [0, 1] lvD (rJ 25 (pJ [(0, false)]) [some (inL p q), some (inL g k)] k q v j (tokV 8)) = (true, jT g k q (gA p j) j [(!(jE g (gA p j) v), false)], true, (Try.f14, laJ, none, 1), slots 156 (j1L k q v (jW j) (tokV 8)), [some (inL p q), some (inL g k)]) := by kernel_rfl
theorem sJb0 (p g : Nat → Int) (k q : Nat) (v j : Int) : liftB [0, 1] [some (inL p q), some (inL g k)] [some (inL p q), some (inL g k)] 2 lvD (rJ 25 (pJ [(0, false)]) [some (inL p q), some (inL g k)] k q v j (tokV 8)) = true := by kernel_rfl
def inV (g : Nat → Int) (x v : Int) (k : Nat) : LO := .fn 1 (updG (fun e _ => .int .i64 (g e)) (0 + x.toNat * 1) 0 [.int .i64 (bits .or .i64 (gA g x) v)]) k 3
def j3 (g : Nat → Int) (x v : Int) (k : Nat) (l : List (Bool × Bool)) : List (Bool × Bool) := (!(jE g x v), true) :: (ixB k x, true) :: (Nat.blt (0 + x.toNat * 1) k, true) :: (ixB k x, true) :: (Nat.blt (0 + x.toNat * 1) k, true) :: l
def pJ1 : Path := pJ [(0, true), (0, true), (0, true), (0, true), (0, true), (0, true)]
theorem sJ1 (p g h : Nat → Int) (k q m : Nat) (v j : Int) : headAt [0, 6, 7, 8, 15, 126, 127, 128] [0, 1, 4] lvD (rJ 42 pJ1 [some (inL p q), some (inL g k), some (inL h m)] k q v j (sl 2 m)) = (true, jT g k q (gA p j) j (j3 g (gA p j) v k [(apT m, true)]), true, (Try.f14, laJ, none, 1), slots 156 (j1L k q v (jW j) (sl 2 (m + 1))), [some (inL p q), some (inV g (gA p j) v k), some (addL h m (gA p j))]) := by kernel_rfl
theorem sJb1 (p g h : Nat → Int) (k q m : Nat) (v j : Int) : liftB [0, 1, 4] [some (inL p q), some (inL g k), some (inL h m)] [some (inL p q), some (inV g (gA p j) v k), some (addL h m (gA p j))] 5 lvD (rJ 42 pJ1 [some (inL p q), some (inL g k), some (inL h m)] k q v j (sl 2 m)) = true := by kernel_rfl
def pJ2 : Path := pJ [(0, true), (0, true), (0, true), (0, true), (0, true)]
theorem sJ2 (p g h : Nat → Int) (k q : Nat) (v j : Int) : headAt [0, 6, 7, 8, 15, 126, 127, 128] [0, 1, 4] lvD (rJ 42 pJ2 [some (inL p q), some (inL g k), some (inL h 0)] k q v j (emV 2)) = (true, jT g k q (gA p j) j (j3 g (gA p j) v k []), true, (Try.f14, laJ, none, 1), slots 156 (j1L k q v (jW j) (sl 2 1)), [some (inL p q), some (inV g (gA p j) v k), some (addL h 0 (gA p j))]) := by kernel_rfl
theorem sJb2 (p g h : Nat → Int) (k q : Nat) (v j : Int) : liftB [0, 1, 4] [some (inL p q), some (inL g k), some (inL h 0)] [some (inL p q), some (inV g (gA p j) v k), some (addL h 0 (gA p j))] 5 lvD (rJ 42 pJ2 [some (inL p q), some (inL g k), some (inL h 0)] k q v j (emV 2)) = true := by kernel_rfl
def okT (bo k : Nat) : Value := .tuple ⟨[sl bo k, .int .i64 0]⟩
def dn : RO → Option (List (Bool × Bool) × Value × Heap)
  | .ok t (.done v H) => some (t, v, H)
  | _ => none
theorem dn_end {r : RO} {t : List (Bool × Bool)} {v : Value} {H : Heap} (h : dn r = some (t, v, H)) (hl : H.lock = 0) : r.end? = some (t, v, H) := by
  unfold dn at h
  split at h
  · simp only [Option.some.injEq, Prod.mk.injEq] at h
    obtain ⟨rfl, rfl, rfl⟩ := h
    simp [RO.end?, hl]
  · cases h
theorem sWE (k bo ba b : Nat) (H : Heap) : dn (Ly.run cxL 100 [] (atSt Try.f14 laW none 1 (slots 156 (wAL k bo ba (emV b))) H)) = some ([], okT bo k, H) := by kernel_rfl
end Go.Proofs.Ytdjmpilegommlaa
namespace Go.Proofs.Ytdjmpilegommlaa
open Go Go.Ly Go.RowKit
structure Wrk (H : Heap) (a o n g : Nat → Int) (k bo ba bw : Nat) (c : List Value) (P : Nat → List Nat) (qs : Nat → Nat) (ws : List Nat) : Prop where
  lock : H.lock = 0
  nd : H.get 0 = some (ndL a o n k)
  out : H.get bo = some (inL g k)
  rows : H.get ba = some (.cells c 26)
  len : c.length = k
  cell : ∀ e, e < k → c[e]? = some (liV (qs e) (P e))
  row : ∀ e, e < k → P e ≠ [] → H.get (qs e) = some (inL (lg (P e)) (P e).length)
  rout : ∀ e, e < k → P e ≠ [] → qs e ≠ bo
  work : H.get bw = some (inL (lg ws) ws.length)
  wout : bw ≠ bo
  wrow : ∀ e, e < k → P e ≠ [] → qs e ≠ bw
def wV (b : Nat) (l : List Nat) : Value := bif l.isEmpty then emV b else sl b l.length
theorem wV_ne {b : Nat} {l : List Nat} (h : l ≠ []) : wV b l = sl b l.length := by cases l; exact absurd rfl h; rfl
def w2B (k bo ba : Nat) (w : Value) (v : Int) : List (Nat × Value) := [(0, sls 0 k), (6, sl bo k), (7, aV k ba), (8, w), (14, .int .i64 v)]
theorem lg_at {l : List Nat} {e x : Nat} (h : l[e]? = some x) : lg l e = (x : Int) := by unfold lg; rw [h]; rfl
theorem gA_at (g : Nat → Int) (e : Nat) : gA g (e : Int) = g e := by unfold gA; rw [show 0 + ((e : Int)).toNat * 1 = e by omega]
section
variable {Q : Value → Heap → Prop} {H : Heap} {a o n g : Nat → Int} {k bo ba bw : Nat} {c : List Value} {P : Nat → List Nat} {qs : Nat → Nat} {ws : List Nat}
theorem Wrk.keep {K : Heap} {g' : Nat → Int} {bw' : Nat} {ws' : List Nat} (hB : Wrk H a o n g k bo ba bw c P qs ws) (kl : K.lock = 0) (kold : ∀ x y, H.get x = some y → x ≠ bo → x ≠ bw → K.get x = some y) (ko : K.get bo = some (inL g' k))
    (kw : K.get bw' = some (inL (lg ws') ws'.length)) (hw : bw' ≠ bo) (hr : ∀ e, e < k → P e ≠ [] → qs e ≠ bw') : Wrk K a o n g' k bo ba bw' c P qs ws' :=
  ⟨kl, kold _ _ hB.nd (get_ne hB.nd hB.out nd_in) (get_ne hB.nd hB.work nd_in), ko, kold _ _ hB.rows (get_ne hB.out hB.rows in_ce).symm (get_ne hB.work hB.rows in_ce).symm, hB.len, hB.cell,
    fun e he h => kold _ _ (hB.row e he h) (hB.rout e he h) (hB.wrow e he h), hB.rout, kw, hw, hr⟩
theorem stepPop {v : Nat} (hB : Wrk H a o n g k bo ba bw c P qs (ws ++ [v])) (hlen : ws.length ≤ 1000000) (hbig : H.next + 1 < big)
    (hs : ∀ K, K.next = H.next → Wrk K a o n g k bo ba bw c P qs ws → MWp Try.prog (atSt Try.f14 laX none 1 (slots 156 (w2B k bo ba (wV bw ws) v)) K) Q) :
    MWp Try.prog (atSt Try.f14 laW none 1 (slots 156 (wAL k bo ba (wV bw (ws ++ [v])))) H) Q := by
  refine MWp.ltn (fun (hlt : ∀ i o, H.get i = some o → i < H.next) (hsm : H.next < big) => ?_)
  have hwl := hlt _ _ hB.work
  rw [wV_ne (by simp)]
  have hm : (ws ++ [v]).length = ws.length + 1 := by simp
  have e1 : m1 (ws ++ [v]).length = (ws.length : Int) := by unfold m1; rw [hm, IntKind.wrap_i64]; omega
  have eg : gA (lg (ws ++ [v])) (m1 (ws ++ [v]).length) = (v : Int) := by
    rw [e1, gA_at, lg_at (x := v)]; simp
  have t1 : decide ((0 : Int) < ((ws ++ [v]).length : Nat)) = true := by rw [decide_eq_true_iff, hm]; omega
  have t2 : ixB (ws ++ [v]).length (m1 (ws ++ [v]).length) = true := by rw [e1, hm]; simp [ixB]; omega
  have t3 : Nat.blt (0 + (m1 (ws ++ [v]).length).toNat * 1) (ws ++ [v]).length = true := by rw [e1, hm, Nat.blt_eq]; omega
  -- the row less one
  have key : ∀ K : Heap, K.lock = 0 → K.next = H.next → (∀ x y, H.get x = some y → x ≠ bw → K.get x = some y) → K.get bw = some (inL (lg (ws ++ [v])) (ws ++ [v]).length) →
      MWp Try.prog (atSt Try.f14 laX none 1 (slots 156 (w2B k bo ba (wV bw ws) v)) K) Q := by
    intro K kl kn kold kb
    refine MWp.objW (S := atSt Try.f14 laX none 1 (slots 156 (w2B k bo ba (wV bw ws) v)) K) (o' := inL (lg ws) ws.length) kb rfl rfl (by omega) (fun ρ x h => ?_) ?_
    · have h2 : OR ρ bw (inL (lg (ws ++ [v])) ws.length) x := OR.less (by rw [hm]; omega) h
      refine OR.eqv (.inr ⟨1, _, _, ws.length, 3, rfl, rfl, fun e j he hj => ?_⟩) h2
      show Value.int .i64 (lg (ws ++ [v]) e) = .int .i64 (lg ws e)
      unfold lg
      rw [List.getElem?_append_left he]
    · have pg := fun o j => put_get (H := K) (show bw < big by omega) o j
      refine hs (K.put bw (inL (lg ws) ws.length)) kn (hB.keep kl (fun x y hx h1 h2 => by rw [pg, if_neg h2]; exact kold x y hx h2) (by rw [pg, if_neg hB.wout.symm]; exact kold _ _ hB.out hB.wout.symm) (by rw [pg, if_pos rfl]) hB.wout hB.wrow)
  have hobj : ∀ (i b : Nat), [bw][i]? = some b → ∃ x, H.get b = some x ∧ ∀ o, ([some (inL (lg (ws ++ [v])) (ws ++ [v]).length)][i]?).getD none = some o → x = renO (ext (sg [bw]) [some (inL (lg (ws ++ [v])) (ws ++ [v]).length)].length H.next) o := fun i b hi => by
    rcases i with _ | i
    · simp at hi; subst hi; exact ⟨_, hB.work, fun o ho => by cases ho; rfl⟩
    · simp at hi
  have fin : ∀ K : Heap, K.lock = 0 → K.next = H.next + (1 - [some (inL (lg (ws ++ [v])) (ws ++ [v]).length)].length) → (∀ i, i < H.next → i ∉ [bw] → K.get i = H.get i) → K.get bw = some (inL (lg (ws ++ [v])) (ws ++ [v]).length) →
      MWp Try.prog (atSt Try.f14 laX none 1 (slots 156 (w2B k bo ba (wV bw ws) v)) K) Q := fun K kl kn kold kb =>
    key K kl kn (fun x y hx h => by rw [kold x (hlt _ _ hx) (by simp [h])]; exact hx) kb
  by_cases hz : ws = []
  · have t4 : wE (ws ++ [v]).length = true := by unfold wE; rw [e1, hz]; rfl
    refine liftL (lB' := w2B k bo ba (emV bw) (gA (lg (ws ++ [v])) (m1 (ws ++ [v]).length))) [0, 6, 7, 8, 14] [bw] [0] 1 28 pW0 (sw0 (lg (ws ++ [v])) (ws ++ [v]).length) (swb0 (lg (ws ++ [v])) (ws ++ [v]).length) (by simp only [wT, trusted, t1, t2, t3, t4, and_self]) rfl (by simp) hB.lock hbig hobj (pC tokI (pC tokI (pC tokI (pC (valI rfl rfl) (pN))))) (pC (tokO (by decide) rfl) (pC (tokO (by decide) rfl) (pC (tokO (by decide) rfl) (pC (valO rfl rfl) (pC (valO rfl rfl) (pN)))))) ?_
    intro K kl kn kold kb
    obtain ⟨k0, kb⟩ := List.cons.inj kb
    rw [eg, show emV bw = wV bw ws by rw [hz]; rfl]
    exact fin K kl kn kold k0
  · have hp : ws.length ≠ 0 := fun h => hz (List.eq_nil_of_length_eq_zero h)
    have t4 : wE (ws ++ [v]).length = false := by
      unfold wE; rw [e1, show decide ((ws.length : Int) = 0) = false by rw [decide_eq_false_iff_not]; omega]; rfl
    have t5 : (decide ((0 : Int) ≤ 0) && (decide (0 ≤ m1 (ws ++ [v]).length) && decide (m1 (ws ++ [v]).length ≤ ((ws ++ [v]).length : Nat)))) = true := by rw [e1, hm]; simp; omega
    refine liftL (lB' := w2B k bo ba (sl bw ((m1 (ws ++ [v]).length).toNat - 0)) (gA (lg (ws ++ [v])) (m1 (ws ++ [v]).length))) [0, 6, 7, 8, 14] [bw] [0] 1 28 pW1 (sw1 (lg (ws ++ [v])) (ws ++ [v]).length) (swb1 (lg (ws ++ [v])) (ws ++ [v]).length) (by simp only [wT, trusted, t1, t2, t3, t4, t5, and_self]) rfl (by simp) hB.lock hbig hobj (pC tokI (pC tokI (pC tokI (pC (valI rfl rfl) (pN))))) (pC (tokO (by decide) rfl) (pC (tokO (by decide) rfl) (pC (tokO (by decide) rfl) (pC (valO rfl rfl) (pC (valO rfl rfl) (pN)))))) ?_
    intro K kl kn kold kb
    obtain ⟨k0, kb⟩ := List.cons.inj kb
    rw [eg, show sl bw ((m1 (ws ++ [v]).length).toNat - 0) = wV bw ws by rw [e1, wV_ne hz]; simp]
    exact fin K kl kn kold k0
theorem stepIn {i : Nat} {w : Value} (hB : Wrk H a o n g k bo ba bw c P qs ws) (hi : i < k) (hk : k ≤ 100) (ho : ∀ e, e < k → inb (o e) = true) (hbo0 : bo ≠ 0) (hbig : H.next + 2 < big)
    (hs : ∀ K, K.next = H.next → Wrk K a o n g k bo ba bw c P qs ws → MWp Try.prog (atSt Try.f14 laJ none 1 (slots 156 (w7L k bo ba w (inF o g i) (liV (qs i) (P i)) (P i).length 0)) K) Q) :
    MWp Try.prog (atSt Try.f14 laX none 1 (slots 156 (w2B k bo ba w i)) H) Q := by
  refine MWp.ltn (fun (hlt : ∀ i o, H.get i = some o → i < H.next) (hsm : H.next < big) => ?_)
  obtain ⟨i1, i2, i3, i4⟩ := ix_tests hi
  have i5 : Nat.blt (0 + ((i : Int)).toNat * 1) k = true := by rw [Nat.blt_eq]; omega
  have i6 : 0 + ((i : Int)).toNat * 1 = i := by omega
  have hx : inb (xO o i) = true := by unfold xO; rw [i3]; exact ho i hi
  refine liftL (lB' := w5L k bo ba w i (inF o g i)) [0, 6, 7, 8, 14, 15] [0, bo] [0, 1] 2 3 p8 (sX1 a o n g k i) (sXb a o n g k i) (by simp only [xT, trusted, i2, i3, i4, i5, hx, and_self]) rfl (by simp [hbo0.symm]) hB.lock hbig (fun i b hi => by
      rcases i with _ | _ | i
      · simp at hi; subst hi; exact ⟨_, hB.nd, fun o ho => by cases ho; rfl⟩
      · simp at hi; subst hi; exact ⟨_, hB.out, fun o ho => by cases ho; rfl⟩
      · simp at hi) (pC (valI rfl rfl) (pC (valI rfl rfl) (pC tokI (pC tokI (pC (valI rfl rfl) (pN)))))) (pC (valO rfl rfl) (pC (valO rfl rfl) (pC (tokO (by decide) rfl) (pC (tokO (by decide) rfl) (pC (valO rfl rfl) (pC (valO rfl rfl) (pN))))))) ?_
  intro K kl kn kold kb
  obtain ⟨k0, kb⟩ := List.cons.inj kb
  obtain ⟨k1, kb⟩ := List.cons.inj kb
  have k0 : K.get 0 = some (ndL a o n k) := k0
  have k1 : K.get bo = some (inL g k) := k1
  have hK : ∀ x y, H.get x = some y → K.get x = some y := fun x y hx => by
    by_cases h1 : x = 0
    · subst h1; rw [k0]; rw [hB.nd] at hx; exact hx
    · by_cases h2 : x = bo
      · subst h2; rw [k1]; rw [hB.out] at hx; exact hx
      · rw [kold x (hlt _ _ hx) (by simp [h1, h2])]; exact hx
  have hW : Wrk K a o n g k bo ba bw c P qs ws := hB.keep kl (fun x y hx _ _ => hK x y hx) k1 (hK _ _ hB.work) hB.wout hB.wrow
  refine MWp.halted cxL_ok _ _ _ (stZ k bo ba w i (inF o g i) K) (by simp only [trusted, i2, and_self]) ?_
  refine MWp.evA cxL_ok.toOk ((stL k bo ba w i (inF o g i) K).trans (congrArg some (evLoad_cells hW.rows tA26g tA26a (show c[0 + ((i : Int)).toNat * 1]? = some (liV (qs i) (P i)) by rw [i6]; exact hB.cell i hi)))) rfl ⟨rfl, rfl⟩ ?_
  by_cases h : P i = []
  · have := hs K kn hW
    rw [h] at this ⊢
    exact MWp.halted cxL_ok _ _ _ (stJ0 k bo ba w i (inF o g i) K) trivial this
  · have := hs K kn hW
    rw [liV_ne h] at this ⊢
    exact MWp.halted cxL_ok _ _ _ (stJ k bo ba w i (inF o g i) (qs i) (P i).length K) trivial this
end
def sV (v : Int) (s : (Nat → Int) × List Nat) (x : Nat) : (Nat → Int) × List Nat := bif bits .or .i64 (s.1 x) v == s.1 x then s else (fun e => bif Nat.beq e x then bits .or .i64 (s.1 x) v else s.1 e, s.2 ++ [x])
theorem inV_eq (g : Nat → Int) (x : Nat) (v : Int) (k : Nat) : LOeq (inV g x v k) (inL (fun e => bif Nat.beq e x then bits .or .i64 (g x) v else g e) k) := by
  refine .inr ⟨1, _, _, k, 3, rfl, rfl, fun e j he hj => ?_⟩
  obtain rfl : j = 0 := by omega
  rw [gA_at]
  have : 0 + ((x : Int)).toNat * 1 = x := by omega
  rw [this]; rfl
section
variable {Q : Value → Heap → Prop} {H : Heap} {a o n g : Nat → Int} {k bo ba bw : Nat} {c : List Value} {P : Nat → List Nat} {qs : Nat → Nat} {ws : List Nat}
theorem stepJ {i j x : Nat} {v : Int} (hB : Wrk H a o n g k bo ba bw c P qs ws) (hi : i < k) (hk : k ≤ 100) (hj : j < (P i).length) (hx : (P i)[j]? = some x) (hxk : x < k) (hpl : (P i).length ≤ 1000) (hlen : ws.length ≤ 1000000) (hbig : H.next + 5 < big)
    (hs : ∀ K bw', K.next ≤ H.next + 2 * ((sV v (g, ws) x).2.length - ws.length) → Wrk K a o n (sV v (g, ws) x).1 k bo ba bw' c P qs (sV v (g, ws) x).2 →
      MWp Try.prog (atSt Try.f14 laJ none 1 (slots 156 (w7L k bo ba (wV bw' (sV v (g, ws) x).2) v (liV (qs i) (P i)) (P i).length ((j + 1 : Nat) : Int))) K) Q) :
    MWp Try.prog (atSt Try.f14 laJ none 1 (slots 156 (w7L k bo ba (wV bw ws) v (liV (qs i) (P i)) (P i).length (j : Int))) H) Q := by
  refine MWp.ltn (fun (hlt : ∀ i o, H.get i = some o → i < H.next) (hsm : H.next < big) => ?_)
  have hne : P i ≠ [] := fun h => by rw [h] at hj; simp at hj
  obtain ⟨j1, j2, j3', j4⟩ := ix_tests hj
  have j5 : Nat.blt (0 + ((j : Int)).toNat * 1) (P i).length = true := by rw [Nat.blt_eq]; omega
  obtain ⟨x1, x2, x3, x4⟩ := ix_tests hxk
  have x5 : Nat.blt (0 + ((x : Int)).toNat * 1) k = true := by rw [Nat.blt_eq]; omega
  have hg : gA (lg (P i)) (j : Int) = (x : Int) := by rw [gA_at]; exact lg_at hx
  have hrow := hB.row i hi hne
  have hro := hB.rout i hi hne
  have hrw := hB.wrow i hi hne
  have hjw : jW (j : Int) = ((j + 1 : Nat) : Int) := by unfold jW; rw [IntKind.wrap_i64]; omega
  have lb := hlt _ _ hrow
  have lo := hlt _ _ hB.out
  have lw := hlt _ _ hB.work
  cases hc : (bits .or .i64 (g x) v == g x) with
  | true =>
    have hE : jE g (x : Int) v = true := by unfold jE; rw [gA_at]; exact hc
    have es : sV v (g, ws) x = (g, ws) := by unfold sV; simp only [hc, cond_true]
    rw [es] at hs
    rw [liV_ne hne] at hs ⊢
    refine liftL (lB' := w7L k bo ba (wV bw ws) v (sl (qs i) (P i).length) (P i).length (jW j)) [0, 6, 7, 8, 15, 126, 127, 128] [qs i, bo] [0, 1] 2 25 (pJ [(0, false)]) (sJ0 (lg (P i)) g k (P i).length v j) (sJb0 (lg (P i)) g k (P i).length v j) (by simp only [jT, trusted, hg, hE, j1, j2, j5, x2, x5, Bool.not_true, and_self]) rfl (by simp [hro]) hB.lock (by show H.next + 2 < big; omega) (fun i' b hi' => by
      rcases i' with _ | _ | i'
      · simp at hi'; subst hi'; exact ⟨_, hrow, fun o ho => by cases ho; rfl⟩
      · simp at hi'; subst hi'; exact ⟨_, hB.out, fun o ho => by cases ho; rfl⟩
      · simp at hi') (pC tokI (pC (valI rfl rfl) (pC tokI (pC tokI (pC (valI rfl rfl) (pC (valI rfl rfl) (pC (valI rfl rfl) (pC (valI rfl rfl) (pN))))))))) (pC (tokO (by decide) rfl) (pC (valO rfl rfl) (pC (tokO (by decide) rfl) (pC (tokO (by decide) rfl) (pC (valO rfl rfl) (pC (valO rfl rfl) (pC (valO rfl rfl) (pC (valO rfl rfl) (pN))))))))) ?_
    intro K kl kn kold kb
    obtain ⟨k0, kb⟩ := List.cons.inj kb
    obtain ⟨k1, kb⟩ := List.cons.inj kb
    have k0 : K.get (qs i) = some (inL (lg (P i)) (P i).length) := k0
    have k1 : K.get bo = some (inL g k) := k1
    have hK : ∀ y z, H.get y = some z → K.get y = some z := fun y z hy => by
      by_cases h1 : y = qs i
      · subst h1; rw [k0]; rw [hrow] at hy; exact hy
      · by_cases h2 : y = bo
        · subst h2; rw [k1]; rw [hB.out] at hy; exact hy
        · rw [kold y (hlt _ _ hy) (by simp [h1, h2])]; exact hy
    rw [hjw]
    exact hs K bw (by have : K.next = H.next := kn; omega) (hB.keep kl (fun y z hy _ _ => hK y z hy) k1 (hK _ _ hB.work) hB.wout hB.wrow)
  | false =>
    have hE : jE g (x : Int) v = false := by unfold jE; rw [gA_at]; exact hc
    have es : sV v (g, ws) x = (fun e => bif Nat.beq e x then bits .or .i64 (g x) v else g e, ws ++ [x]) := by unfold sV; simp only [hc, cond_false]
    rw [es] at hs
    rw [liV_ne hne] at hs ⊢
    simp only at hs
    have hwv : ∀ b, wV b (ws ++ [x]) = sl b (ws ++ [x]).length := fun b => wV_ne (by simp)
    simp only [hwv] at hs
    have hm : (ws ++ [x]).length = ws.length + 1 := by simp
    rw [hm] at hs
    rw [← hjw] at hs
    have key : ∀ K : Heap, K.lock = 0 → K.next = H.next + 2 → (∀ y z, H.get y = some z → y ≠ bo → y ≠ bw → K.get y = some z) → K.get bo = some (inV g (gA (lg (P i)) j) v k) → K.get (H.next + 1) = some (addL (lg ws) ws.length (gA (lg (P i)) j)) →
        MWp Try.prog (atSt Try.f14 laJ none 1 (slots 156 (w7L k bo ba (sl (H.next + 1) (ws.length + 1)) v (sl (qs i) (P i).length) (P i).length (jW j))) K) Q := by
      intro K kl kn kold k1 k2
      rw [hg] at k1 k2
      refine MWp.eqO k1 rfl (inV_eq g x v k) (by omega) ?_
      have pg := fun o j => put_get (H := K) (show bo < big by omega) o j
      refine MWp.eqO (b := H.next + 1) (o := addL (lg ws) ws.length x) (by rw [pg, if_neg (by omega)]; exact k2) rfl (add_eq ws x) (by omega) ?_
      have pg2 := fun o' j => put_get (H := K.put bo (inL (fun e => bif Nat.beq e x then bits .or .i64 (g x) v else g e) k)) (show H.next + 1 < big by omega) o' j
      refine hs _ (H.next + 1) (by show K.next ≤ _; omega) (hB.keep kl (fun y z hy h1 h2 => ?_) ?_ ?_ (by omega) (fun e he hP => ?_))
      · rw [pg2, if_neg (by have := hlt _ _ hy; omega), pg, if_neg h1]; exact kold y z hy h1 h2
      · rw [pg2, if_neg (by omega), pg, if_pos rfl]
      · rw [pg2, if_pos rfl, hm]
      · have := hlt _ _ (hB.row e he hP); omega
    have fin : ∀ K : Heap, K.lock = 0 → K.next = H.next + 2 → (∀ y, y < H.next → y ∉ [qs i, bo, bw] → K.get y = H.get y) → K.get (qs i) = some (inL (lg (P i)) (P i).length) → K.get bo = some (inV g (gA (lg (P i)) j) v k) → K.get (H.next + 1) = some (addL (lg ws) ws.length (gA (lg (P i)) j)) →
        MWp Try.prog (atSt Try.f14 laJ none 1 (slots 156 (w7L k bo ba (sl (H.next + 1) (ws.length + 1)) v (sl (qs i) (P i).length) (P i).length (jW j))) K) Q := by
      intro K kl kn kold k0 k1 k2
      refine key K kl kn (fun y z hy h1 h2 => ?_) k1 k2
      by_cases h3 : y = qs i
      · subst h3; rw [k0]; rw [hrow] at hy; exact hy
      · rw [kold y (hlt _ _ hy) (by simp [h1, h2, h3])]; exact hy
    by_cases hz : ws = []
    · subst hz
      refine liftL (lB' := w7L k bo ba (sl (H.next + 1) 1) v (sl (qs i) (P i).length) (P i).length (jW j)) [0, 6, 7, 8, 15, 126, 127, 128] [qs i, bo, bw] [0, 1, 4] 5 42 pJ2 (sJ2 (lg (P i)) g (lg []) k (P i).length v j) (sJb2 (lg (P i)) g (lg []) k (P i).length v j) (by simp only [jT, j3, trusted, hg, hE, j1, j2, j5, x2, x5, Bool.not_false, and_self]) rfl (by simp [hro, hrw, hB.wout.symm]) hB.lock hbig (fun i' b hi' => by
        rcases i' with _ | _ | _ | i'
        · simp at hi'; subst hi'; exact ⟨_, hrow, fun o ho => by cases ho; rfl⟩
        · simp at hi'; subst hi'; exact ⟨_, hB.out, fun o ho => by cases ho; rfl⟩
        · simp at hi'; subst hi'; exact ⟨_, hB.work, fun o ho => by cases ho; rfl⟩
        · simp at hi') (pC tokI (pC (valI rfl rfl) (pC tokI (pC (valI rfl rfl) (pC (valI rfl rfl) (pC (valI rfl rfl) (pC (valI rfl rfl) (pC (valI rfl rfl) (pN))))))))) (pC (tokO (by decide) rfl) (pC (valO rfl rfl) (pC (tokO (by decide) rfl) (pC (valO rfl rfl) (pC (valO rfl rfl) (pC (valO rfl rfl) (pC (valO rfl rfl) (pC (valO rfl rfl) (pN))))))))) ?_
      intro K kl kn kold kb
      obtain ⟨k0, kb⟩ := List.cons.inj kb
      obtain ⟨k1, kb⟩ := List.cons.inj kb
      obtain ⟨k2, kb⟩ := List.cons.inj kb
      exact fin K kl kn kold k0 k1 k2
    · have hp : 1 ≤ ws.length := by have : ws.length ≠ 0 := fun h => hz (List.eq_nil_of_length_eq_zero h); omega
      rw [wV_ne hz]
      refine liftL (lB' := w7L k bo ba (sl (H.next + 1) (ws.length + 1)) v (sl (qs i) (P i).length) (P i).length (jW j)) [0, 6, 7, 8, 15, 126, 127, 128] [qs i, bo, bw] [0, 1, 4] 5 42 pJ1 (sJ1 (lg (P i)) g (lg ws) k (P i).length ws.length v j) (sJb1 (lg (P i)) g (lg ws) k (P i).length ws.length v j) (by simp only [jT, j3, trusted, hg, hE, j1, j2, j5, x2, x5, apT_true hp (show ws.length ≤ 100000000 by omega), Bool.not_false, and_self]) rfl (by simp [hro, hrw, hB.wout.symm]) hB.lock hbig (fun i' b hi' => by
        rcases i' with _ | _ | _ | i'
        · simp at hi'; subst hi'; exact ⟨_, hrow, fun o ho => by cases ho; rfl⟩
        · simp at hi'; subst hi'; exact ⟨_, hB.out, fun o ho => by cases ho; rfl⟩
        · simp at hi'; subst hi'; exact ⟨_, hB.work, fun o ho => by cases ho; rfl⟩
        · simp at hi') (pC tokI (pC (valI rfl rfl) (pC tokI (pC (valI rfl rfl) (pC (valI rfl rfl) (pC (valI rfl rfl) (pC (valI rfl rfl) (pC (valI rfl rfl) (pN))))))))) (pC (tokO (by decide) rfl) (pC (valO rfl rfl) (pC (tokO (by decide) rfl) (pC (valO rfl rfl) (pC (valO rfl rfl) (pC (valO rfl rfl) (pC (valO rfl rfl) (pC (valO rfl rfl) (pN))))))))) ?_
      intro K kl kn kold kb
      obtain ⟨k0, kb⟩ := List.cons.inj kb
      obtain ⟨k1, kb⟩ := List.cons.inj kb
      obtain ⟨k2, kb⟩ := List.cons.inj kb
      exact fin K kl kn kold k0 k1 k2
end
end Go.Proofs.Ytdjmpilegommlaa
namespace Go.Proofs.Ytdjmpilegommlaa
open Go Go.Ly Go.RowKit
def fV (v : Int) (s : (Nat → Int) × List Nat) (l : List Nat) : (Nat → Int) × List Nat := l.foldl (sV v) s
theorem sV_len (v : Int) (s : (Nat → Int) × List Nat) (x : Nat) : s.2.length ≤ (sV v s x).2.length ∧ (sV v s x).2.length ≤ s.2.length + 1 := by
  unfold sV
  cases (bits .or .i64 (s.1 x) v == s.1 x) <;> simp
theorem fV_len (v : Int) : ∀ (l : List Nat) (s : (Nat → Int) × List Nat), s.2.length ≤ (fV v s l).2.length
  | [], s => Nat.le_refl _
  | x :: l, s => Nat.le_trans (sV_len v s x).1 (fV_len v l (sV v s x))
theorem sV_in {v : Int} {s : (Nat → Int) × List Nat} {x y : Nat} (h : y ∈ (sV v s x).2) : y ∈ s.2 ∨ y = x := by
  unfold sV at h
  cases hb : (bits .or .i64 (s.1 x) v == s.1 x) with
  | true => rw [hb] at h; exact .inl h
  | false => rw [hb] at h; simpa using h
theorem fV_in {v : Int} {y : Nat} : ∀ (l : List Nat) (s : (Nat → Int) × List Nat), y ∈ (fV v s l).2 → y ∈ s.2 ∨ y ∈ l
  | [], s, h => .inl h
  | x :: l, s, h => by
    rcases fV_in l (sV v s x) h with h | h
    · rcases sV_in h with h | h
      · exact .inl h
      · exact .inr (by simp [h])
    · exact .inr (List.mem_cons_of_mem _ h)
inductive Wk (o : Nat → Int) (P : Nat → List Nat) : Nat → (Nat → Int) → List Nat → (Nat → Int) → Prop
  | done (g : Nat → Int) (N : Nat) : Wk o P N g [] g
  | step (g g' : Nat → Int) (ws : List Nat) (i N : Nat) (h : Wk o P N (fV (inF o g i) (g, ws) (P i)).1 (fV (inF o g i) (g, ws) (P i)).2 g') : Wk o P (N + ((fV (inF o g i) (g, ws) (P i)).2.length - ws.length)) g (ws ++ [i]) g'
section
variable {Q : Value → Heap → Prop} {a o n : Nat → Int} {k bo ba : Nat} {c : List Value} {P : Nat → List Nat} {qs : Nat → Nat}
theorem wk_in {i : Nat} {v : Int} (hi : i < k) (hk : k ≤ 100) (hPk : ∀ e x, x ∈ P e → x < k) (hPl : ∀ e, (P e).length ≤ 1000) : ∀ (d j : Nat) (g : Nat → Int) (ws : List Nat) (bw : Nat) (H : Heap), j + d = (P i).length → Wrk H a o n g k bo ba bw c P qs ws →
    (fV v (g, ws) ((P i).drop j)).2.length ≤ 1000000 → H.next + 2 * ((fV v (g, ws) ((P i).drop j)).2.length - ws.length) + 6 < big →
    (∀ K bw', K.next ≤ H.next + 2 * ((fV v (g, ws) ((P i).drop j)).2.length - ws.length) → Wrk K a o n (fV v (g, ws) ((P i).drop j)).1 k bo ba bw' c P qs (fV v (g, ws) ((P i).drop j)).2 →
      MWp Try.prog (atSt Try.f14 laW none 1 (slots 156 (wAL k bo ba (wV bw' (fV v (g, ws) ((P i).drop j)).2))) K) Q) →
    MWp Try.prog (atSt Try.f14 laJ none 1 (slots 156 (w7L k bo ba (wV bw ws) v (liV (qs i) (P i)) (P i).length (j : Int))) H) Q
  | 0, j, g, ws, bw, H, hd, hB, hl, hbig, hs => by
    have e : (P i).drop j = [] := List.drop_eq_nil_of_le (by omega)
    rw [e] at hs
    refine MWp.halted cxL_ok _ _ _ (stG k bo ba (wV bw ws) v (liV (qs i) (P i)) (P i).length (j : Int) H) (by simp only [trusted, show decide ((j : Int) < ((P i).length : Nat)) = false by rw [decide_eq_false_iff_not]; omega, and_self]) ?_
    exact hs H bw (by omega) hB
  | d + 1, j, g, ws, bw, H, hd, hB, hl, hbig, hs => by
    have hj : j < (P i).length := by omega
    have e : (P i).drop j = (P i)[j] :: (P i).drop (j + 1) := List.drop_eq_getElem_cons hj
    rw [e] at hs hl hbig
    have hx : (P i)[j]? = some (P i)[j] := List.getElem?_eq_getElem hj
    have q1 := sV_len v (g, ws) (P i)[j]
    have q2 := fV_len v ((P i).drop (j + 1)) (sV v (g, ws) (P i)[j])
    have q3 : fV v (g, ws) ((P i)[j] :: (P i).drop (j + 1)) = fV v (sV v (g, ws) (P i)[j]) ((P i).drop (j + 1)) := rfl
    rw [q3] at hs hl hbig
    obtain ⟨g1, ws1, hs1⟩ : ∃ g1 ws1, sV v (g, ws) (P i)[j] = (g1, ws1) := ⟨_, _, rfl⟩
    rw [hs1] at q1 q2 hs hl hbig
    simp only at q1 q2
    refine stepJ hB hi hk hj hx (hPk i _ (List.getElem_mem hj)) (hPl i) (by omega) (by omega) fun K bw' kn hK => ?_
    rw [hs1] at kn hK ⊢
    simp only at kn hK ⊢
    refine wk_in hi hk hPk hPl d (j + 1) _ _ bw' K (by omega) hK hl (by omega) fun M bw'' mn hM => ?_
    exact hs M bw'' (by omega) hM
theorem wk_all (hk : k ≤ 100) (ho : ∀ e, e < k → inb (o e) = true) (hbo0 : bo ≠ 0) (hPk : ∀ e x, x ∈ P e → x < k) (hPl : ∀ e, (P e).length ≤ 1000) {N : Nat} {g g' : Nat → Int} {ws : List Nat} (h : Wk o P N g ws g') :
    ∀ (H : Heap) (bw : Nat), Wrk H a o n g k bo ba bw c P qs ws → ws.length + N ≤ 1000000 → H.next + 2 * N + 10 < big → (∀ x ∈ ws, x < k) →
    MWp Try.prog (atSt Try.f14 laW none 1 (slots 156 (wAL k bo ba (wV bw ws))) H) (fun u K => u = okT bo k ∧ K.get bo = some (inL g' k) ∧ K.lock = 0) := by
  induction h with
  | done g N =>
    intro H bw hB hl hbig hw
    exact MWp.done cxL_ok 100 [] (dn_end (sWE k bo ba bw H) hB.lock) trivial ⟨rfl, hB.out, hB.lock⟩
  | step g g' ws i N h ih =>
    intro H bw hB hl hbig hw
    rw [List.length_append, List.length_singleton] at hl
    have hi : i < k := hw i (by simp)
    have q := fV_len (inF o g i) (P i) (g, ws)
    simp only at q
    refine stepPop hB (by omega) (by omega) fun K kn hK => ?_
    refine stepIn hK hi hk ho hbo0 (by omega) fun M mn hM => ?_
    refine wk_in hi hk hPk hPl (P i).length 0 g ws bw M (by omega) hM (by rw [List.drop_zero]; omega) (by rw [List.drop_zero]; omega) ?_
    rw [List.drop_zero]
    intro J bw' jn hJ
    refine ih J bw' hJ (by omega) (by omega) fun x hx => ?_
    rcases fV_in _ _ hx with h | h
    · exact hw x (by simp [h])
    · exact hPk i x h
end
end Go.Proofs.Ytdjmpilegommlaa
namespace Go.Proofs.Ytdjmpilegommlaa
open Go Go.Ly Go.RowKit
theorem or_tab : ((List.range 32).all fun x => (List.range 32).all fun y => bits .or .i64 (x : Nat) (y : Nat) == ((x ||| y : Nat) : Int)) = true := by kernel_rfl
theorem an_tab : ((List.range 32).all fun x => (List.range 32).all fun y => bits .andNot .i64 (x : Nat) (y : Nat) == ((x &&& (31 - y) : Nat) : Int)) = true := by kernel_rfl
theorem bits_or {x y : Nat} (hx : x < 32) (hy : y < 32) : bits .or .i64 (x : Int) (y : Int) = ((x ||| y : Nat) : Int) := by
  have := List.all_eq_true.1 (List.all_eq_true.1 or_tab x (List.mem_range.2 hx)) y (List.mem_range.2 hy)
  simpa using this
theorem bits_an {x y : Nat} (hx : x < 32) (hy : y < 32) : bits .andNot .i64 (x : Int) (y : Int) = ((x &&& (31 - y) : Nat) : Int) := by
  have := List.all_eq_true.1 (List.all_eq_true.1 an_tab x (List.mem_range.2 hx)) y (List.mem_range.2 hy)
  simpa using this
theorem us_tab : ((List.range 256).all fun x => (decide (0 ≤ usesT (x : Nat)) && decide (usesT (x : Nat) ≤ 31)) && (decide (0 ≤ setsT (x : Nat)) && decide (setsT (x : Nat) ≤ 31))) = true := by kernel_rfl
theorem us_in {x : Int} (h : inb x = true) : 0 ≤ usesT x ∧ usesT x ≤ 31 ∧ 0 ≤ setsT x ∧ setsT x ≤ 31 := by
  have h1 : 0 ≤ x ∧ x ≤ 255 := by simpa [inb] using h
  obtain ⟨n, rfl⟩ := Int.eq_ofNat_of_zero_le h1.1
  have := List.all_eq_true.1 us_tab n (List.mem_range.2 (by omega))
  simp only [Bool.and_eq_true, decide_eq_true_eq] at this
  exact ⟨this.1.1, this.1.2, this.2.1, this.2.2⟩
def Sub (x y : Nat) : Prop := x ||| y = y
theorem Sub.refl (x : Nat) : Sub x x := Nat.or_self x
theorem Sub.trans {x y z : Nat} (h1 : Sub x y) (h2 : Sub y z) : Sub x z := by
  unfold Sub at *; rw [← h2, ← Nat.or_assoc, h1]
theorem Sub.or {x y z : Nat} (h1 : Sub x z) (h2 : Sub y z) : Sub (x ||| y) z := by
  unfold Sub at *; rw [Nat.or_assoc, h2, h1]
theorem Sub.left (x y : Nat) : Sub x (x ||| y) := by unfold Sub; rw [← Nat.or_assoc, Nat.or_self]
theorem Sub.right (x y : Nat) : Sub y (x ||| y) := by unfold Sub; rw [Nat.or_comm x y]; exact Sub.left y x
theorem Sub.anti {x y : Nat} (h1 : Sub x y) (h2 : Sub y x) : x = y := by unfold Sub at *; rw [← h2, Nat.or_comm]; exact h1
theorem Sub.and {x y : Nat} (m : Nat) (h : Sub x y) : Sub (x &&& m) (y &&& m) := by unfold Sub at *; rw [← Nat.and_or_distrib_right, h]
theorem Sub.zero (y : Nat) : Sub 0 y := Nat.zero_or y
theorem or_lt {x y : Nat} (hx : x < 32) (hy : y < 32) : x ||| y < 32 := Nat.or_lt_two_pow (n := 5) hx hy
theorem and_lt {x : Nat} (y : Nat) (hx : x < 32) : x &&& y < 32 := Nat.lt_of_le_of_lt Nat.and_le_left hx
section
variable (us ss : Nat → Nat) (bs : Nat → Nat) (P : Nat → List Nat) (k : Nat)
def inN (h : Nat → Nat) (e : Nat) : Nat := us e ||| (h e &&& (31 - ss e))
structure Pre (h : Nat → Nat) : Prop where
  base : ∀ x, x < k → Sub (bs x) (h x)
  edge : ∀ e x, e < k → x ∈ P e → Sub (inN us ss h e) (h x)
structure Least (g : Nat → Nat) : Prop where
  pre : Pre us ss bs P k g
  least : ∀ h, Pre us ss bs P k h → ∀ x, x < k → Sub (g x) (h x)
  lt : ∀ e, g e < 32
def mu (g : Nat → Nat) : Nat → Nat
  | 0 => 0
  | i + 1 => mu g i + (31 - g i)
theorem mu_le {g g' : Nat → Nat} (h : ∀ e, g e ≤ g' e) : ∀ k, mu g' k ≤ mu g k
  | 0 => Nat.le_refl _
  | i + 1 => by have := mu_le h i; have := h i; simp only [mu]; omega
theorem mu_lt {g g' : Nat → Nat} (h : ∀ e, g e ≤ g' e) (hl : ∀ e, g' e < 32) {x : Nat} (hx : g x < g' x) : ∀ k, x < k → mu g' k + 1 ≤ mu g k
  | 0, h => by omega
  | i + 1, hk => by
    simp only [mu]
    by_cases he : x = i
    · subst he
      have := mu_le h x; have := hl x; omega
    · have := mu_lt h hl hx i (by omega); have := h i; omega
def pV (v : Nat) (s : (Nat → Nat) × List Nat) (x : Nat) : (Nat → Nat) × List Nat :=
  if s.1 x ||| v = s.1 x then s else (fun e => if e = x then s.1 x ||| v else s.1 e, s.2 ++ [x])
structure FI (g : Nat → Nat) (ws : List Nat) (v : Nat) (D : Nat → Prop) (s : (Nat → Nat) × List Nat) : Prop where
  up : ∀ e, Sub (g e) (s.1 e)
  lt : ∀ e, s.1 e < 32
  old : ∀ x ∈ ws, x ∈ s.2
  wk : ∀ x ∈ s.2, x < k
  dn : ∀ x, D x → Sub v (s.1 x)
  eq : ∀ e, e ∉ s.2 → s.1 e = g e
  le : ∀ h, Pre us ss bs P k h → ∀ x, x < k → Sub (s.1 x) (h x)
  less : mu s.1 k + s.2.length ≤ mu g k + ws.length
variable {us ss bs P k}
theorem FI.step {g : Nat → Nat} {ws : List Nat} {v x : Nat} {D : Nat → Prop} {s : (Nat → Nat) × List Nat} (h : FI us ss bs P k g ws v D s) (hx : x < k) (hv : v < 32) (hle : ∀ h, Pre us ss bs P k h → Sub v (h x)) :
    FI us ss bs P k g ws v (fun y => D y ∨ y = x) (pV v s x) := by
  unfold pV
  split
  · rename_i he
    refine ⟨h.up, h.lt, h.old, h.wk, fun y hy => ?_, h.eq, h.le, h.less⟩
    rcases hy with hy | rfl
    · exact h.dn y hy
    · show v ||| s.1 y = s.1 y; rw [Nat.or_comm]; exact he
  · rename_i he
    have hsub : ∀ e, Sub (s.1 e) (if e = x then s.1 x ||| v else s.1 e) := fun e => by
      by_cases hex : e = x
      · subst hex; rw [if_pos rfl]; exact Sub.left _ _
      · rw [if_neg hex]; exact Sub.refl _
    have hlt : ∀ e, (if e = x then s.1 x ||| v else s.1 e) < 32 := fun e => by
      split
      · exact or_lt (h.lt x) hv
      · exact h.lt e
    refine ⟨fun e => (h.up e).trans (hsub e), hlt, fun y hy => by simp [h.old y hy], fun y hy => ?_, fun y hy => ?_, fun e hn => ?_, fun q hq y hy => ?_, ?_⟩
    · rcases List.mem_append.1 hy with hy | hy
      · exact h.wk y hy
      · rw [List.mem_singleton] at hy; omega
    · rcases hy with hy | rfl
      · exact (h.dn y hy).trans (hsub y)
      · show Sub v (if y = y then s.1 y ||| v else s.1 y); rw [if_pos rfl]; exact Sub.right _ _
    · have hn : e ∉ s.2 ∧ e ≠ x := by simpa using hn
      show (if e = x then s.1 x ||| v else s.1 e) = g e
      rw [if_neg hn.2]; exact h.eq e hn.1
    · show Sub (if y = x then s.1 x ||| v else s.1 y) (q y)
      by_cases hyx : y = x
      · subst hyx; rw [if_pos rfl]; exact Sub.or (h.le q hq y hy) (hle q hq)
      · rw [if_neg hyx]; exact h.le q hq y hy
    · have hm := h.less
      have hle' : ∀ e, s.1 e ≤ (if e = x then s.1 x ||| v else s.1 e) := fun e => by
        split
        · rename_i e'; subst e'; exact Nat.left_le_or
        · exact Nat.le_refl _
      have := mu_lt (g := s.1) (g' := fun e => if e = x then s.1 x ||| v else s.1 e) hle' hlt (x := x) (by
        show s.1 x < (if x = x then s.1 x ||| v else s.1 x)
        rw [if_pos rfl]
        have h1 : s.1 x ≤ s.1 x ||| v := Nat.left_le_or
        omega) k hx
      rw [List.length_append, List.length_singleton]
      show mu (fun e => if e = x then s.1 x ||| v else s.1 e) k + _ ≤ _
      omega
theorem FI.all {g : Nat → Nat} {ws : List Nat} {v : Nat} (hv : v < 32) : ∀ (l : List Nat) (D : Nat → Prop) (s : (Nat → Nat) × List Nat), FI us ss bs P k g ws v D s → (∀ x ∈ l, x < k ∧ ∀ h, Pre us ss bs P k h → Sub v (h x)) →
    FI us ss bs P k g ws v (fun y => D y ∨ y ∈ l) (l.foldl (pV v) s)
  | [], D, s, h, hl => ⟨h.up, h.lt, h.old, h.wk, fun x hx => h.dn x (by simpa using hx), h.eq, h.le, h.less⟩
  | x :: l, D, s, h, hl => by
    have h1 := h.step (hl x (by simp)).1 hv (hl x (by simp)).2
    have h2 := FI.all hv l _ _ h1 (fun y hy => hl y (by simp [hy]))
    exact ⟨h2.up, h2.lt, h2.old, h2.wk, fun y hy => h2.dn y (by simp only [List.mem_cons] at hy; rcases hy with h | h | h; exact .inl (.inl h); exact .inl (.inr h); exact .inr h), h2.eq, h2.le, h2.less⟩
structure Inv (us ss bs : Nat → Nat) (P : Nat → List Nat) (k : Nat) (g : Nat → Nat) (ws : List Nat) : Prop where
  base : ∀ x, x < k → Sub (bs x) (g x)
  edge : ∀ e x, e < k → e ∉ ws → x ∈ P e → Sub (inN us ss g e) (g x)
  least : ∀ h, Pre us ss bs P k h → ∀ x, x < k → Sub (g x) (h x)
  lt : ∀ e, g e < 32
  wk : ∀ x ∈ ws, x < k
theorem inN_sub {g h : Nat → Nat} {e : Nat} (hs : Sub (g e) (h e)) : Sub (inN us ss g e) (inN us ss h e) :=
  Sub.or (Sub.left _ _) ((hs.and _).trans (Sub.right _ _))
theorem inN_eq {g h : Nat → Nat} {e : Nat} (he : h e = g e) : inN us ss h e = inN us ss g e := by unfold inN; rw [he]
theorem Inv.step {g : Nat → Nat} {ws : List Nat} {i : Nat} (hus : ∀ e, us e < 32) (hPk : ∀ e x, x ∈ P e → x < k) (h : Inv us ss bs P k g (ws ++ [i])) :
    Inv us ss bs P k ((P i).foldl (pV (inN us ss g i)) (g, ws)).1 ((P i).foldl (pV (inN us ss g i)) (g, ws)).2 ∧
    mu ((P i).foldl (pV (inN us ss g i)) (g, ws)).1 k + ((P i).foldl (pV (inN us ss g i)) (g, ws)).2.length ≤ mu g k + ws.length := by
  have hi : i < k := h.wk i (by simp)
  have hv : inN us ss g i < 32 := or_lt (hus i) (and_lt _ (h.lt i))
  have h0 : FI us ss bs P k g ws (inN us ss g i) (fun _ => False) (g, ws) := ⟨fun e => Sub.refl _, h.lt, fun x hx => hx, fun x hx => h.wk x (by simp [hx]), fun x hx => hx.elim, fun e _ => rfl, h.least, Nat.le_refl _⟩
  have hF := FI.all hv (P i) _ _ h0 (fun x hx => ⟨hPk i x hx, fun q hq => (inN_sub (h.least q hq i hi)).trans (hq.edge i x hi hx)⟩)
  refine ⟨⟨fun x hx => (h.base x hx).trans (hF.up x), fun e x he hn hx => ?_, hF.le, hF.lt, hF.wk⟩, hF.less⟩
  have e1 := hF.eq e hn
  have e2 : inN us ss ((P i).foldl (pV (inN us ss g i)) (g, ws)).1 e = inN us ss g e := inN_eq e1
  rw [e2]
  by_cases hei : e = i
  · subst hei; exact hF.dn x (.inr hx)
  · refine (h.edge e x he (fun hm => ?_) hx).trans (hF.up x)
    rcases List.mem_append.1 hm with hm | hm
    · exact hn (hF.old e hm)
    · rw [List.mem_singleton] at hm; exact hei hm
inductive WkP (us ss : Nat → Nat) (P : Nat → List Nat) : Nat → (Nat → Nat) → List Nat → (Nat → Nat) → Prop
  | done (g : Nat → Nat) : WkP us ss P 0 g [] g
  | step (g g' : Nat → Nat) (ws : List Nat) (i N : Nat) (h : WkP us ss P N ((P i).foldl (pV (inN us ss g i)) (g, ws)).1 ((P i).foldl (pV (inN us ss g i)) (g, ws)).2 g') : WkP us ss P (N + (((P i).foldl (pV (inN us ss g i)) (g, ws)).2.length - ws.length)) g (ws ++ [i]) g'
theorem pV_len (v : Nat) (s : (Nat → Nat) × List Nat) (x : Nat) : s.2.length ≤ (pV v s x).2.length := by
  unfold pV; split <;> simp
theorem pV_lenA (v : Nat) : ∀ (l : List Nat) (s : (Nat → Nat) × List Nat), s.2.length ≤ (l.foldl (pV v) s).2.length
  | [], s => Nat.le_refl _
  | x :: l, s => Nat.le_trans (pV_len v s x) (pV_lenA v l (pV v s x))
theorem wk_ex (hus : ∀ e, us e < 32) (hPk : ∀ e x, x ∈ P e → x < k) : ∀ (M : Nat) (g : Nat → Nat) (ws : List Nat), 2 * mu g k + ws.length ≤ M → Inv us ss bs P k g ws → ∃ N g', N ≤ mu g k ∧ WkP us ss P N g ws g' ∧ Inv us ss bs P k g' []
  | M, g, ws, hM, h => by
    rcases List.eq_nil_or_concat ws with rfl | ⟨ws', i, rfl⟩
    · exact ⟨0, g, Nat.zero_le _, .done g, h⟩
    · rw [List.concat_eq_append] at h hM ⊢
      rw [List.length_append, List.length_singleton] at hM
      obtain ⟨h1, h2⟩ := h.step hus hPk
      have h3 := pV_lenA (inN us ss g i) (P i) (g, ws')
      simp only at h3
      match M with
      | 0 => omega
      | M + 1 =>
        obtain ⟨N, g', hN, hw, hI⟩ := wk_ex hus hPk M _ _ (by omega) h1
        exact ⟨_, g', by omega, .step g g' ws' i N hw, hI⟩
theorem Inv.least' {g : Nat → Nat} (h : Inv us ss bs P k g []) : Least us ss bs P k g :=
  ⟨⟨h.base, fun e x he hx => h.edge e x he (by simp) hx⟩, h.least, h.lt⟩
theorem Least.uniq {g g' : Nat → Nat} (h : Least us ss bs P k g) (h' : Least us ss bs P k g') {e : Nat} (he : e < k) : g e = g' e := (h.least _ h'.pre e he).anti (h'.least _ h.pre e he)
end
end Go.Proofs.Ytdjmpilegommlaa
namespace Go.Proofs.Ytdjmpilegommlaa
open Go Go.Ly Go.RowKit
theorem so_T2 (a o n : Nat → Int) (k : Nat) (i : Int) : endsAt [0] (Ly.run cxC 200 [(0, false)] (mkSt Try.f31 soK none 1 (soV k i) [some (ndL a o n k)])) = some ([(decide (0 < i), false)], .bool true, 1, [some (ndL a o n k)]) := by kernel_rfl
theorem so_E2 (a o n : Nat → Int) (k : Nat) (i : Int) : endsAt [0] (Ly.run cxC 200 (soP [(0, true)]) (mkSt Try.f31 soK none 1 (soV k i) [some (ndL a o n k)])) = some (soT a k i [(decide (soX a i < soX a (soW i)), true)], .bool false, 1, [some (ndL a o n k)]) := by kernel_rfl
def SoQ (a o n : Nat → Int) (k : Nat) (b : Bool) (v : Value) (K : Heap) : Prop := v = .bool b ∧ K.get 0 = some (ndL a o n k) ∧ K.lock = 0 ∧ K.next = 1
theorem so_end {a o n : Nat → Int} {k : Nat} {b : Bool} {v : Value} {K : Heap} {nx : Nat} (h : v = .bool b ∧ K.next = 1 ∧ [0].map K.get = [some (ndL a o n k)] ∧ K.lock = 0) : SoQ a o n k b v K :=
  ⟨h.1, (List.cons.inj h.2.2.1).1, h.2.2.2, h.2.1⟩
theorem so_loop2 (a o n : Nat → Int) (k : Nat) (hk : k ≤ 4294967000) : ∀ (i : Nat), i < k → MWp Try.prog (mkSt Try.f31 soK none 1 (soV k i) [some (ndL a o n k)]) (SoQ a o n k (soN a i))
  | 0, _ => (MWp.ends cxC_ok 200 _ (so_T2 a o n k 0) (by simp [trusted])).mono (fun v K h => so_end (nx := 0) h)
  | i + 1, hi => by
    obtain ⟨h1, h2, h3, h4⟩ := ix_tests hi
    obtain ⟨g1, g2, g3, g4⟩ := ix_tests (show i < k by omega)
    have hw : soW ((i + 1 : Nat) : Int) = (i : Int) := by unfold soW; rw [IntKind.wrap_i64]; omega
    have h0 : decide ((0 : Int) < ((i + 1 : Nat) : Int)) = true := by simp
    have x1 : soX a ((i + 1 : Nat) : Int) = a (i + 1) := by unfold soX; rw [h3]
    have x2 : soX a (i : Int) = a i := by unfold soX; rw [g3]
    have nn : ∀ x : Int, (x != x) = false := fun x => by simp
    cases c : decide (a (i + 1) < a i) with
    | true =>
      have e : soN a (i + 1) = false := by simp only [soN, c, cond_true]
      rw [e]
      exact (MWp.ends cxC_ok 200 _ (so_E2 a o n k ((i + 1 : Nat) : Int)) (by simp only [soT, trusted, hw, h0, h2, h3, h4, g2, g3, g4, x1, x2, nn, c, and_self])).mono (fun v K h => so_end (nx := 0) h)
    | false =>
      have e : soN a (i + 1) = soN a i := by simp only [soN, c, cond_false]
      rw [e]
      cases c2 : decide (a i < a (i + 1)) with
      | true =>
        refine MWp.head cxC_ok _ _ _ _ (so_I a o n k ((i + 1 : Nat) : Int)) (by simp only [soT, trusted, hw, h0, h2, h3, h4, g2, g3, g4, x1, x2, nn, c, c2, and_self]) (ow_P a o n k) ?_
        rw [hw]; exact so_loop2 a o n k hk i (by omega)
      | false =>
        refine MWp.head cxC_ok _ _ _ _ (so_J a o n k ((i + 1 : Nat) : Int)) (by simp only [soT, trusted, hw, h0, h2, h3, h4, g2, g3, g4, x1, x2, nn, c, c2, and_self]) (ow_P a o n k) ?_
        rw [hw]; exact so_loop2 a o n k hk i (by omega)
theorem so_calls2 (a o n : Nat → Int) (k : Nat) (hk : k ≤ 4294967000) : LCalls Try.prog 31 [sls 0 k, soF] (mkH [some (ndL a o n k)]) (SoQ a o n k (soN a (k - 1))) := by
  refine LCalls_of cxC_ok soG (by kernel_rfl) ?_
  refine MWp.head cxC_ok _ _ _ _ (so_0 a o n k) trivial (ow_P a o n k) ?_
  rcases k with _ | k
  · exact (MWp.ends cxC_ok 200 _ (so_T2 a o n 0 _) (by simp [trusted, IntKind.wrap_i64])).mono (fun v K h => so_end (nx := 0) h)
  · have hw : IntKind.i64.wrap (((k + 1 : Nat) : Int) - 1) = (k : Int) := by rw [IntKind.wrap_i64]; omega
    rw [hw]
    exact so_loop2 a o n (k + 1) hk k (by omega)
theorem lv_G (a o n : Nat → Int) (k : Nat) (H : Heap) : haltF [0, 21, 22, 23] lvD (Ly.run cxL 13 [] (lvB0 a o n k true H)) = (true, [], true, (Try.f14, lpK, none, 1), lpV k 0, H) := by kernel_rfl
theorem lv_few (a o n : Nat → Int) (k nx : Nat) : formOf [0, 21, 22, 23] [0] (atSt Try.f14 lpK none 1 (lpV k 0) (vH [0] [some (ndL a o n k)] nx)) = (true, (Try.f14, lpK, none, 1), lpV k 0, [some (ndL a o n k)]) := by kernel_rfl
theorem zi_L (k : Nat) : LOeq (zL k) (inL (fun _ => 0) k) := by
  refine .inr ⟨1, _, _, k, 3, rfl, rfl, fun e j he hj => ?_⟩
  obtain rfl : j = 0 := by omega
  rfl
theorem live_start {Q : Value → Heap → Prop} (a o n : Nat → Int) (k : Nat) (hk : k ≤ 100) (ho : ∀ e, e < k → inb (o e) = true)
    (hgood : soN a (k - 1) = true → riN k a o = true → MWp Try.prog (atSt Try.f14 laK none 1 (laV0 k) (laH0 a o n k)) Q) (hbad : (soN a (k - 1) && riN k a o) = false → ∀ H, Q badT H) : LCalls Try.prog 14 [sls 0 k] (mkH [some (ndL a o n k)]) Q := by
  refine LCalls_of cxL31_ok lvG (by kernel_rfl) ?_
  refine MWp.head cxL31_ok _ _ _ _ (lv_0 a o n k) trivial (ow_P a o n k) ?_
  refine MWp.call envOk (lv_C a o n k) (so_calls2 a o n k (by omega)) ?_
  rintro v K ⟨rfl, k0, kl, kn⟩
  cases hs : soN a (k - 1) with
  | false => exact MWp.out cxL_ok 60 [] (lv_F a o n k K) trivial (hbad (by rw [hs]; rfl))
  | true =>
    refine MWp.halted cxL_ok _ _ _ (lv_G a o n k K) trivial ?_
    refine MWp.keepB (bs := [0]) (os := [some (ndL a o n k)]) (os' := [some (ndL a o n k)]) [0, 21, 22, 23] kn kl (by simp [k0]) ?_ rfl (lv_few a o n k 1) (ow_P a o n k) ?_
    · exact ⟨OW.refl _, trivial⟩
    · refine lp_loop a o n k hk ho (fun e he => (soN_spec (k - 1)).1 hs e (by omega)) (fun h => hgood hs h) (fun h => hbad (by rw [h, Bool.and_false])) k 0 (by omega) rfl
end Go.Proofs.Ytdjmpilegommlaa
namespace Go.Proofs.Ytdjmpilegommlaa
open Go Go.Ly Go.RowKit
theorem sWE0 (k bo ba : Nat) (H : Heap) : dn (Ly.run cxL 100 [] (atSt Try.f14 laW none 1 (slots 156 (wAL k bo ba (.slice none 0 0))) H)) = some ([], okT bo k, H) := by kernel_rfl
theorem la_0 (a o n : Nat → Int) (k : Nat) : (laH0 a o n k).get 0 = some (ndL a o n k) := by kernel_rfl
theorem la_1 (a o n : Nat → Int) (k : Nat) : (laH0 a o n k).get 1 = some (zL k) := by kernel_rfl
theorem la_2 (a o n : Nat → Int) (k : Nat) : (laH0 a o n k).get 2 = some (niL k) := by kernel_rfl
theorem la_n (a o n : Nat → Int) (k : Nat) : (laH0 a o n k).next = 3 := by kernel_rfl
theorem la_l (a o n : Nat → Int) (k : Nat) : (laH0 a o n k).lock = 0 := by kernel_rfl
theorem og_0 (a o n : Nat → Int) (k : Nat) : og a o n k 0 = fun _ => 0 := by
  funext e; unfold og
  rw [show Nat.blt e 0 = false from Bool.eq_false_iff.2 fun h => by rw [Nat.blt_eq] at h; omega]; rfl
def LiveQ (a o : Nat → Int) (k : Nat) (G : Nat → Int) (u : Value) (K : Heap) : Prop := ((soN a (k - 1) && riN k a o) = false ∧ u = badT) ∨ ((soN a (k - 1) && riN k a o) = true ∧ u = okT 1 k ∧ K.lock = 0 ∧ ∃ g', K.get 1 = some (inL g' k) ∧ ∀ e, e < k → g' e = G e)
theorem live_calls (a o n : Nat → Int) (k : Nat) (hk : k ≤ 100) (ho : ∀ e, e < k → inb (o e) = true) (G : Nat → Int)
    (hW : (soN a (k - 1) && riN k a o) = true → ∀ P : Nat → List Nat, (∀ e x, x ∈ P e ↔ x < k ∧ e ∈ toL a o n k x) → (∀ e, (P e).length ≤ k) → ∃ N g', N ≤ 100000 ∧ Wk o P N (og a o n k k) (List.range k) g' ∧ ∀ e, e < k → g' e = G e) :
    LCalls Try.prog 14 [sls 0 k] (mkH [some (ndL a o n k)]) (LiveQ a o k G) := by
  refine live_start a o n k hk ho (fun hs hr => ?_) (fun hb H => .inl ⟨hb, rfl⟩)
  have hsr : (soN a (k - 1) && riN k a o) = true := by rw [hs, hr]; rfl
  refine MWp.eqO (la_1 a o n k) rfl (zi_L k) (by decide) ?_
  have pg := fun o' j => put_get (H := laH0 a o n k) (show 1 < big by decide) o' j
  have hB : Bld ((laH0 a o n k).put 1 (inL (fun _ => 0) k)) a o n (og a o n k 0) k 1 2 0 (List.replicate k (.slice none 0 0)) (fun _ => []) (fun _ => 0) (List.range 0) := by
    rw [og_0]
    refine ⟨la_l a o n k, by rw [pg, if_neg (by decide)]; exact la_0 a o n k, by rw [pg, if_pos rfl], by rw [pg, if_neg (by decide)]; exact la_2 a o n k, List.length_replicate, fun e he => ?_, fun e he h => absurd rfl h, fun e he h => absurd rfl h, fun e e' _ _ h => absurd rfl h, fun h => absurd rfl h, fun h => absurd rfl h, fun h => absurd rfl h⟩
    rw [List.getElem?_replicate, if_pos he]; rfl
  show MWp Try.prog (atSt Try.f14 laK none 1 (slots 156 (hAL k 1 2 (liV 0 (List.range 0)) ((0 : Nat) : Int))) ((laH0 a o n k).put 1 (inL (fun _ => 0) k))) (LiveQ a o k G)
  refine bld_all hk ho (by decide) ?_ k 0 _ _ _ _ _ (by omega) (by show (laH0 a o n k).next + 7 * k ≤ 10000; rw [la_n]; omega) hB (fun e x => by simp) (fun e => by simp)
  intro K c qs bw P kn hK hP hPl
  refine MWp.halted cxL_ok _ _ _ (stW k 1 2 (liV bw (List.range k)) (k : Nat) K) (by simp only [trusted, show decide (((k : Nat) : Int) < (k : Nat)) = false by rw [decide_eq_false_iff_not]; omega, and_self]) ?_
  obtain ⟨N, g', hN, hwk, hg⟩ := hW hsr P hP hPl
  by_cases hk0 : k = 0
  · subst hk0
    refine MWp.done cxL_ok 100 [] (dn_end (sWE0 0 1 2 K) hK.lock) trivial (.inr ⟨hsr, rfl, hK.lock, _, hK.out, fun e he => by omega⟩)
  · have hne : List.range k ≠ [] := by
      intro h; have := congrArg List.length h; simp at this; exact hk0 this
    rw [liV_ne hne, ← wV_ne (b := bw) hne]
    have hWr : Wrk K a o n (og a o n k k) k 1 2 bw c P qs (List.range k) := ⟨hK.lock, hK.nd, hK.out, hK.rows, hK.len, hK.cell, hK.row, hK.rout, hK.work hne, hK.wout hne, hK.wrow hne⟩
    refine (wk_all hk ho (by decide) (fun e x h => ((hP e x).1 h).1) (fun e => by have := hPl e; omega) hwk K bw hWr (by rw [List.length_range]; omega) (by unfold big; omega) (fun x hx => List.mem_range.1 hx)).mono ?_
    rintro u J ⟨rfl, j1, j2⟩
    exact .inr ⟨hsr, rfl, j2, g', j1, hg⟩
end Go.Proofs.Ytdjmpilegommlaa
namespace Go.Proofs.Ytdjmpilegommlaa
open Go Go.Ly Go.RowKit
def castF (g : Nat → Nat) : Nat → Int := fun e => (g e : Int)
def usN (o : Nat → Int) (e : Nat) : Nat := if inb (o e) = true then (usesT (o e)).toNat else 0
def ssN (o : Nat → Int) (e : Nat) : Nat := if inb (o e) = true then (setsT (o e)).toNat else 0
theorem usN_lt (o : Nat → Int) (e : Nat) : usN o e < 32 := by
  unfold usN; split
  · rename_i h; have := us_in h; omega
  · omega
theorem ssN_lt (o : Nat → Int) (e : Nat) : ssN o e < 32 := by
  unfold ssN; split
  · rename_i h; have := us_in h; omega
  · omega
theorem usN_c {o : Nat → Int} {e : Nat} (h : inb (o e) = true) : usesT (o e) = (usN o e : Int) := by
  unfold usN; rw [if_pos h]; have := us_in h; omega
theorem ssN_c {o : Nat → Int} {e : Nat} (h : inb (o e) = true) : setsT (o e) = (ssN o e : Int) := by
  unfold ssN; rw [if_pos h]; have := us_in h; omega
theorem inF_c {o : Nat → Int} {g : Nat → Nat} {e : Nat} (h : inb (o e) = true) (hg : g e < 32) : inF o (castF g) e = (inN (usN o) (ssN o) g e : Int) := by
  have hx : xO o (e : Int) = o e := by unfold xO; rw [show 0 + ((e : Int)).toNat = e by omega]
  unfold inF
  rw [hx, gA_at, usN_c h, ssN_c h]
  show bits .or .i64 (usN o e : Int) (bits .andNot .i64 (g e : Int) (ssN o e : Int)) = _
  rw [bits_an hg (ssN_lt o e), bits_or (usN_lt o e) (and_lt _ hg)]; rfl
theorem inN_lt {o : Nat → Int} {g : Nat → Nat} {e : Nat} (hg : g e < 32) : inN (usN o) (ssN o) g e < 32 := or_lt (usN_lt o e) (and_lt _ hg)
theorem sV_c {v : Nat} {s : (Nat → Nat) × List Nat} {x : Nat} (hv : v < 32) (hs : ∀ e, s.1 e < 32) : sV (v : Int) (castF s.1, s.2) x = (castF (pV v s x).1, (pV v s x).2) := by
  have hb : bits .or .i64 (castF s.1 x) (v : Int) = ((s.1 x ||| v : Nat) : Int) := bits_or (hs x) hv
  unfold sV pV
  simp only [hb]
  by_cases h : s.1 x ||| v = s.1 x
  · rw [if_pos h]
    have : (((s.1 x ||| v : Nat) : Int) == castF s.1 x) = true := by rw [h]; simp [castF]
    rw [this]; rfl
  · rw [if_neg h]
    have : (((s.1 x ||| v : Nat) : Int) == castF s.1 x) = false := by
      rw [Bool.eq_false_iff]; intro h'
      have h' : ((s.1 x ||| v : Nat) : Int) = (s.1 x : Int) := by simpa [castF] using h'
      exact h (by omega)
    rw [this]
    simp only [cond_false, Prod.mk.injEq, and_true]
    funext e
    unfold castF
    by_cases he : e = x
    · subst he; simp [Nat.beq_refl]
    · show _ = (((if e = x then s.1 x ||| v else s.1 e : Nat)) : Int)
      rw [if_neg he, show Nat.beq e x = false from Bool.eq_false_iff.2 fun h' => he (Nat.eq_of_beq_eq_true h')]; rfl
theorem pV_lt {v : Nat} {s : (Nat → Nat) × List Nat} {x : Nat} (hv : v < 32) (hs : ∀ e, s.1 e < 32) (e : Nat) : (pV v s x).1 e < 32 := by
  unfold pV
  split
  · exact hs e
  · show (if e = x then s.1 x ||| v else s.1 e) < 32
    split
    · exact or_lt (hs x) hv
    · exact hs e
theorem fV_c {v : Nat} (hv : v < 32) : ∀ (l : List Nat) (s : (Nat → Nat) × List Nat), (∀ e, s.1 e < 32) → fV (v : Int) (castF s.1, s.2) l = (castF (l.foldl (pV v) s).1, (l.foldl (pV v) s).2) ∧ ∀ e, (l.foldl (pV v) s).1 e < 32
  | [], s, hs => ⟨rfl, hs⟩
  | x :: l, s, hs => by
    have h := fV_c hv l (pV v s x) (pV_lt hv hs)
    refine ⟨?_, h.2⟩
    show fV (v : Int) (sV (v : Int) (castF s.1, s.2) x) l = _
    rw [sV_c hv hs]; exact h.1
theorem wk_cast {o : Nat → Int} {P : Nat → List Nat} {k N : Nat} {g g' : Nat → Nat} {ws : List Nat} (ho : ∀ e, e < k → inb (o e) = true) (hPk : ∀ e x, x ∈ P e → x < k) (h : WkP (usN o) (ssN o) P N g ws g') :
    (∀ e, g e < 32) → (∀ x ∈ ws, x < k) → Wk o P N (castF g) ws (castF g') := by
  induction h with
  | done g => intro _ _; exact .done _ 0
  | step g g' ws i N h ih =>
    intro hg hw
    have hi : i < k := hw i (by simp)
    have hv : inF o (castF g) i = (inN (usN o) (ssN o) g i : Int) := inF_c (ho i hi) (hg i)
    obtain ⟨e1, e2⟩ := fV_c (inN_lt (o := o) (hg i)) (P i) (g, ws) hg
    have e1 : fV (inF o (castF g) i) (castF g, ws) (P i) = (castF ((P i).foldl (pV (inN (usN o) (ssN o) g i)) (g, ws)).1, ((P i).foldl (pV (inN (usN o) (ssN o) g i)) (g, ws)).2) := by rw [hv]; exact e1
    have := Wk.step (o := o) (P := P) (castF g) (castF g') ws i N (by
      rw [e1]
      refine ih e2 fun x hx => ?_
      have hx' : x ∈ (fV (inF o (castF g) i) (castF g, ws) (P i)).2 := by rw [e1]; exact hx
      rcases fV_in _ _ hx' with h | h
      · exact hw x (by simp [h])
      · exact hPk i x h)
    rw [e1] at this; exact this
def bsN (a o n : Nat → Int) (k e : Nat) : Nat := bif Nat.blt e k && opL a o n k e then 31 else 0
theorem og_c (a o n : Nat → Int) (k : Nat) : og a o n k k = castF (bsN a o n k) := by
  funext e; unfold og castF bsN; cases (Nat.blt e k && opL a o n k e) <;> rfl
theorem bsN_lt (a o n : Nat → Int) (k e : Nat) : bsN a o n k e < 32 := by unfold bsN; cases (Nat.blt e k && opL a o n k e) <;> decide
def prL (a o n : Nat → Int) (k e : Nat) : List Nat := (List.range k).filter fun x => decide (e ∈ toL a o n k x)
theorem prL_in {a o n : Nat → Int} {k e x : Nat} : x ∈ prL a o n k e ↔ x < k ∧ e ∈ toL a o n k x := by simp [prL]
def LeastL (a o n : Nat → Int) (k : Nat) (g : Nat → Nat) : Prop := Least (usN o) (ssN o) (bsN a o n k) (prL a o n k) k g
theorem Pre.congr {us ss bs : Nat → Nat} {P P' : Nat → List Nat} {k : Nat} {h : Nat → Nat} (hP : ∀ e x, x ∈ P e ↔ x ∈ P' e) (hp : Pre us ss bs P k h) : Pre us ss bs P' k h := ⟨hp.base, fun e x he hx => hp.edge e x he ((hP e x).2 hx)⟩
theorem Least.congr {us ss bs : Nat → Nat} {P P' : Nat → List Nat} {k : Nat} {h : Nat → Nat} (hP : ∀ e x, x ∈ P e ↔ x ∈ P' e) (hp : Least us ss bs P k h) : Least us ss bs P' k h :=
  ⟨hp.pre.congr hP, fun q hq => hp.least q (hq.congr fun e x => (hP e x).symm), hp.lt⟩
theorem mu_bd (g : Nat → Nat) : ∀ k, mu g k ≤ 31 * k
  | 0 => Nat.le_refl _
  | k + 1 => by have := mu_bd g k; simp only [mu]; omega
theorem live_run (a o n : Nat → Int) (k : Nat) (P : Nat → List Nat) (hP : ∀ e x, x ∈ P e ↔ x < k ∧ e ∈ toL a o n k x) : ∃ N g', N ≤ 31 * k ∧ WkP (usN o) (ssN o) P N (bsN a o n k) (List.range k) g' ∧ LeastL a o n k g' := by
  have hI : Inv (usN o) (ssN o) (bsN a o n k) P k (bsN a o n k) (List.range k) :=
    ⟨fun x _ => Sub.refl _, fun e x he hn _ => absurd (List.mem_range.2 he) hn, fun h hp => hp.base, bsN_lt a o n k, fun x hx => List.mem_range.1 hx⟩
  obtain ⟨N, g', hN, hw, hI'⟩ := wk_ex (usN_lt o) (fun e x h => ((hP e x).1 h).1) _ _ _ (Nat.le_refl _) hI
  exact ⟨N, g', Nat.le_trans hN (mu_bd _ _), hw, hI'.least'.congr fun e x => (hP e x).trans prL_in.symm⟩
theorem live_ex (a o n : Nat → Int) (k : Nat) : ∃ g, LeastL a o n k g := by
  obtain ⟨N, g', _, _, h⟩ := live_run a o n k (prL a o n k) (fun e x => prL_in)
  exact ⟨g', h⟩
def livN (a o n : Nat → Int) (k : Nat) : Nat → Nat := Classical.choose (live_ex a o n k)
theorem livN_least (a o n : Nat → Int) (k : Nat) : LeastL a o n k (livN a o n k) := Classical.choose_spec (live_ex a o n k)
def livG (a o n : Nat → Int) (k : Nat) : Nat → Int := castF (livN a o n k)
theorem live_good (a o n : Nat → Int) (k : Nat) (hk : k ≤ 100) (ho : ∀ e, e < k → inb (o e) = true) : LCalls Try.prog 14 [sls 0 k] (mkH [some (ndL a o n k)]) (LiveQ a o k (livG a o n k)) := by
  refine live_calls a o n k hk ho _ fun _ P hP hPl => ?_
  obtain ⟨N, g', hN, hw, hL⟩ := live_run a o n k P hP
  refine ⟨N, castF g', by omega, ?_, fun e he => ?_⟩
  · rw [og_c]
    exact wk_cast ho (fun e x h => ((hP e x).1 h).1) hw (bsN_lt a o n k) (fun x hx => List.mem_range.1 hx)
  · show ((g' e : Nat) : Int) = (livN a o n k e : Nat)
    rw [hL.uniq (livN_least a o n k) he]
end Go.Proofs.Ytdjmpilegommlaa
namespace Go.Ly
open Go.RowKit
section
variable {P : Program} {ρ : Ren} {H : Heap} {w w' : World}
theorem calls_pairF {f : FuncId} {args0 args' : List Value} {os : List (Option LO)} {ρ1 : Ren} {r n : Nat} {g : Nat → Value} {t : TypeId} {x : Value} (hx : plain x = true) (hc : ∀ e, e < n → cst (g e) = true)
    (h : LCalls P f args0 (mkH os) (fun u K => u = .tuple ⟨[sl r n, x]⟩ ∧ (∃ g', K.get r = some (.fn 1 g' n t) ∧ ∀ e, e < n → g' e 0 = g e) ∧ K.lock = 0)) (ha : VRL ρ1 args0 args') (hr1 : Rep ρ1 (mkH os) w) (hro : ∀ i, ρ1.ro i = true)
    (hr : Rep ρ H w) (hb : H.next + 1 < big) :
    Calls P f ⟨args'⟩ w (fun e w' => ∃ ρ' v v' H', e = .returned v' ∧ (v = .tuple ⟨[sl H.next n, x]⟩ ∧ H' = H.new (.fn 1 (fun e _ => g e) n t)) ∧ Ren.le ρ ρ' ∧ Fresh ρ ρ' w ∧ VR ρ' v v' ∧ Rep ρ' H' w' ∧ Keep ρ w w') := by
  refine (h ρ1 args' w ha hr1).mono ?_
  rintro e w' ⟨ρ2, u, u', K, rfl, ⟨rfl, ⟨g', hK, hg⟩, hlk⟩, h1, h2, h3, h4, h5⟩
  have hbel : Below w.heap.size w w' := ⟨h5.os, h5.tape, h5.output, h5.size, fun k hk => h5.block k hk (fun i _ => hro i)⟩
  obtain ⟨q1, b, o', q2, q3, q4⟩ := h4.obj r _ hK rfl
  have hro2 : ρ2.ro r = false := q1 (by rw [hlk]; exact Nat.zero_le _)
  have hbnew : w.heap.size ≤ b := by
    rcases h2 r b q2 with h6 | ⟨j, _, h6⟩
    · exact h6
    · have := h6 hro2; rw [hro j] at this; cases this
  have hrB := hr.below hbel
  have hnone : ∀ i, ρ i ≠ some b := fun i e => by have := (hr.dom i b e).2; omega
  obtain ⟨z1, z0, c', d', z3, z5, z4, z2⟩ := q4
  have hOR : OR (ρ.ext H.next b (ρ2.cap r) 1) H.next (.fn 1 (fun e _ => g e) n t) o' := by
    refine ⟨by simp [Ren.ext], by simp [Ren.ext], c', d', z3, z5, by simp [Ren.ext]; omega, ⟨fun e j he hj => ?_, fun e j he hj => hc e he⟩⟩
    obtain rfl : j = 0 := by omega
    obtain ⟨v', k1, k2⟩ := z2.val e 0 he (by omega)
    rw [hg e he] at k2
    exact ⟨v', k1, VR_cst (hc e he) k2⟩
  have hRep := hrB.extNew (k := ρ2.cap r) (wd := 1) hb rfl (h4.dom r b q2).2 hnone q3 hOR (by
    cases hf : fixed b with
    | none => rfl
    | some o => have := hr.fix.lt hf; omega)
  refine ⟨ρ.ext H.next b (ρ2.cap r) 1, .tuple ⟨[sl H.next n, x]⟩, u', _, rfl, ⟨rfl, rfl⟩, hr.ext_le _ _ _, fun i y hy => ?_, ?_, hRep, Below.toKeep hbel⟩
  · simp only [Ren.ext] at hy
    split at hy
    · simp at hy; subst hy; exact .inl hbnew
    · rename_i e; exact .inr ⟨i, hy, by simp [Ren.ext, e]⟩
  · simp only [VR, VRL, sl] at h3 ⊢
    obtain ⟨l', ⟨s', r', ⟨a', c2, rfl, y1, y2, y3⟩, ⟨x', e', hx', he', rfl⟩, rfl⟩, rfl⟩ := h3
    subst he'
    have := plain_eq hx hx'
    subst this
    refine ⟨_, ⟨_, _, ⟨a', c2, rfl, y1, fun hc => absurd rfl hc, fun hN => ?_⟩, ⟨_, _, plain_VR _ hx, rfl, rfl⟩, rfl⟩, rfl⟩
    obtain ⟨b', x1, x2, x3⟩ := y3 hN
    have hbb : b' = b := by
      have x1' : ρ2 r = some b' := x1
      rw [q2] at x1'; simp at x1'; exact x1'.symm
    subst hbb
    refine ⟨b', by simp [Ren.ext], ?_, ?_⟩
    · rw [x2]; simp [Ren.at, Ren.ext, z1]
    · intro hc _
      have := x3 rfl (by simp [Ren.at, z1])
      simpa [Ren.ext] using this
def EmpT (z : Bool) (x : Value) (u : Value) : Prop := (z = true ∧ u = .tuple ⟨[.slice none 0 0, x]⟩) ∨ (z = false ∧ ∃ b, u = .tuple ⟨[sl b 0, x]⟩)
def empV (z : Bool) (x : Value) : Value := .tuple ⟨[bif z then .slice none 0 0 else sl 0 0, x]⟩
theorem EmpT.vr {z : Bool} {x u v' : Value} (hx : plain x = true) (h : EmpT z x u) {ρ2 : Ren} (hv : VR ρ2 u v') (ρ : Ren) : VR ρ (empV z x) v' := by
  rcases h with ⟨rfl, rfl⟩ | ⟨rfl, b, rfl⟩
  · simp only [empV, cond_true, VR, VRL, sl] at hv ⊢
    obtain ⟨l', ⟨s', r', rfl, ⟨x', e', hx', he', rfl⟩, rfl⟩, rfl⟩ := hv
    subst he'
    have := plain_eq hx hx'
    subst this
    exact ⟨_, ⟨_, _, rfl, ⟨_, _, plain_VR _ hx, rfl, rfl⟩, rfl⟩, rfl⟩
  · simp only [empV, cond_false, VR, VRL, sl] at hv ⊢
    obtain ⟨l', ⟨s', r', ⟨a', c2, rfl, y1, y2, y3⟩, ⟨x', e', hx', he', rfl⟩, rfl⟩, rfl⟩ := hv
    subst he'
    have := plain_eq hx hx'
    subst this
    exact ⟨_, ⟨_, _, ⟨a', c2, rfl, y1, fun e => absurd rfl e, fun e => absurd rfl e⟩, ⟨_, _, plain_VR _ hx, rfl, rfl⟩, rfl⟩, rfl⟩
theorem calls_pairE {f : FuncId} {args0 args' : List Value} {os : List (Option LO)} {ρ1 : Ren} {z : Bool} {x : Value} (hx : plain x = true) (h : LCalls P f args0 (mkH os) (fun u _ => EmpT z x u)) (ha : VRL ρ1 args0 args') (hr1 : Rep ρ1 (mkH os) w) (hro : ∀ i, ρ1.ro i = true) (hr : Rep ρ H w) :
    Calls P f ⟨args'⟩ w (fun e w' => ∃ ρ' v v' H', e = .returned v' ∧ (v = empV z x ∧ H' = H) ∧ Ren.le ρ ρ' ∧ Fresh ρ ρ' w ∧ VR ρ' v v' ∧ Rep ρ' H' w' ∧ Keep ρ w w') := by
  refine (h ρ1 args' w ha hr1).mono ?_
  rintro e w' ⟨ρ2, u, u', K, rfl, hu, h1, h2, h3, h4, h5⟩
  have hbel : Below w.heap.size w w' := ⟨h5.os, h5.tape, h5.output, h5.size, fun k hk => h5.block k hk (fun i _ => hro i)⟩
  exact ⟨ρ, _, u', H, rfl, ⟨rfl, rfl⟩, Ren.le_refl _, Fresh.refl _ _, hu.vr hx h3 ρ, hr.below hbel, Below.toKeep hbel⟩
theorem HGood.both {f : Nat} {args : List Value} {z : Bool} {v : Bool → Value} (h : LCalls P f args H (fun u K => u = v z ∧ K = H)) : HGood P f args H (.tst z (.val (v true)) (.val (v false))) := by
  cases z with
  | true => exact ⟨fun _ => h, fun h => by cases h⟩
  | false => exact ⟨fun h => (by cases h), fun _ => h⟩
structure PairB where
  ok : Bool
  n : Nat
  g : Nat → Int
  x : Value
  z : Bool
def rowsPairE (k : Nat) (mk : Nat → (Nat → Nat → Value) → List Value → PairB) (t : TypeId) (H : Heap) (args : List Value) : ER :=
  match args with
  | x :: rest =>
    match srcR H k x with
    | some (g1, u) => bif Nat.beq H.lock 0 && Nat.blt (H.next + 1) 2147483000 then
        .tst (g1 && (u.csts && (plainL rest && (mk u.n (u.fun k) rest).ok)))
          (.tst (Nat.beq (mk u.n (u.fun k) rest).n 0) (.tst (mk u.n (u.fun k) rest).z (.val (empV true (mk u.n (u.fun k) rest).x)) (.val (empV false (mk u.n (u.fun k) rest).x)))
            (.mem (.tuple ⟨[sl H.next (mk u.n (u.fun k) rest).n, (mk u.n (u.fun k) rest).x]⟩) (H.new (.fn 1 (fun e _ => .int .i64 ((mk u.n (u.fun k) rest).g e)) (mk u.n (u.fun k) rest).n t)))) .no else .no
    | none => .no
  | _ => .no
theorem rowsPairE_good {k : Nat} {t : TypeId} {f : FuncId} {mk : Nat → (Nat → Nat → Value) → List Value → PairB} (hp : ∀ n G r, plain (mk n G r).x = true)
    (hS : ∀ n G r, plainL r = true → (mk n G r).ok = true → (mk n G r).n ≠ 0 → ∃ b, LCalls P f (sls 0 n :: r) (mkH [some (.arg k G n)]) (fun u K => u = .tuple ⟨[sl b (mk n G r).n, (mk n G r).x]⟩ ∧
      (∃ g', K.get b = some (.fn 1 g' (mk n G r).n t) ∧ ∀ e, e < (mk n G r).n → g' e 0 = .int .i64 ((mk n G r).g e)) ∧ K.lock = 0))
    (hZ : ∀ n G r, plainL r = true → (mk n G r).ok = true → (mk n G r).n = 0 → LCalls P f (sls 0 n :: r) (mkH [some (.arg k G n)]) (fun u _ => EmpT (mk n G r).z (mk n G r).x u))
    (hN : ∀ G r, plainL r = true → (mk 0 G r).ok = true → (mk 0 G r).n = 0 ∧ LCalls P f (.slice none 0 0 :: r) (mkH []) (fun u _ => EmpT (mk 0 G r).z (mk 0 G r).x u))
    (H : Heap) (args : List Value) : HGood P f args H (rowsPairE k mk t H args) := by
  unfold rowsPairE
  split
  · rename_i x rest
    cases h1 : srcR H k x with
    | none => exact trivial
    | some gu =>
      obtain ⟨g1, u⟩ := gu
      simp only
      cases hb0 : (Nat.beq H.lock 0 && Nat.blt (H.next + 1) 2147483000) with
      | false => exact trivial
      | true =>
        rw [Bool.and_eq_true] at hb0
        have hb : H.next + 1 < big := by have := hb0.2; unfold big; simpa [Nat.blt_eq] using this
        refine ⟨fun hg => ⟨fun h0 => HGood.both (v := fun z => empV z (mk u.n (u.fun k) rest).x) ?_, fun h0 => ?_⟩, fun _ => trivial⟩
        all_goals
          simp only [Bool.and_eq_true] at hg
          obtain ⟨e1, e2, e3, e4⟩ := hg
          intro ρ args' w ha hr
          haveI := hr.fix.w
          simp only [VRL] at ha
          obtain ⟨x', r', hx, hr', rfl⟩ := ha
          obtain rfl := plainL_eq e3 hr'
        · have h0 := Nat.eq_of_beq_eq_true h0
          rcases nil_or h1 with ⟨rfl, rfl⟩ | ⟨a, n, c, rfl⟩
          · simp only [VR] at hx; subst hx
            exact calls_pairE (ρ1 := rowsRen []) (hp _ _ _) (hN _ r' e3 e4).2 (by simp only [VRL]; exact ⟨_, _, by simp [VR], plainL_VR _ e3, rfl⟩) (rows_rep (rs := []) rfl (by simp) (by simp) (by simp)) (fun _ => rfl) hr
          · obtain ⟨hun, p, hrow⟩ := view_rows hr hx h1 e1 e2
            have hL := hZ u.n (u.fun k) r' e3 e4 h0
            have hpp := hp u.n (u.fun k) r'
            rw [hun] at hL hpp ⊢
            exact calls_pairE (ρ1 := rowsRenW [p] (fun _ => k)) hpp hL (by simp only [VRL]; exact ⟨x', _, VR_sls (slW_VR hrow (by simp)), plainL_VR _ e3, rfl⟩)
              (rowsW_rep (l := [p]) (rs := [(k, u.fun k, n)]) rfl (by simp) (by
                intro i q hq
                rcases i with _ | i
                · simp at hq; exact hrow.low q hq
                · simp at hq) (by
                intro i k2 g2 n2 h0
                rcases i with _ | i
                · simp at h0; obtain ⟨rfl, rfl, rfl⟩ := h0
                  refine ⟨rfl, fun e j he hj => ⟨hrow.one e j he hj, ?_⟩⟩
                  obtain ⟨q, h3, h4⟩ := hrow.cell e j he hj
                  exact ⟨q, by simp [h3], h4⟩
                · simp at h0)) (fun _ => rfl) hr
        · have h0 : (mk u.n (u.fun k) r').n ≠ 0 := fun e => by rw [e] at h0; cases h0
          rcases nil_or h1 with ⟨rfl, rfl⟩ | ⟨a, n, c, rfl⟩
          · exact absurd (hN _ r' e3 e4).1 h0
          · obtain ⟨hun, p, hrow⟩ := view_rows hr hx h1 e1 e2
            obtain ⟨b, hL⟩ := hS u.n (u.fun k) r' e3 e4 h0
            rw [hun] at hL ⊢
            exact calls_pairF (ρ1 := rowsRenW [p] (fun _ => k)) (by rw [← hun]; exact hp _ _ _) (fun e he => rfl) hL (by simp only [VRL]; exact ⟨x', _, VR_sls (slW_VR hrow (by simp)), plainL_VR _ e3, rfl⟩)
              (rowsW_rep (l := [p]) (rs := [(k, u.fun k, n)]) rfl (by simp) (by
                intro i q hq
                rcases i with _ | i
                · simp at hq; exact hrow.low q hq
                · simp at hq) (by
                intro i k2 g2 n2 h0
                rcases i with _ | i
                · simp at h0; obtain ⟨rfl, rfl, rfl⟩ := h0
                  refine ⟨rfl, fun e j he hj => ⟨hrow.one e j he hj, ?_⟩⟩
                  obtain ⟨q, h3, h4⟩ := hrow.cell e j he hj
                  exact ⟨q, by simp [h3], h4⟩
                · simp at h0)) (fun _ => rfl) hr hb
  · exact trivial
end
end Go.Ly
namespace Go.Proofs.Ytdjmpilegommlaa
open Go Go.Ly Go.RowKit
theorem riF_rise {a o : Nat → Int} : ∀ (d i : Nat), riF a o d i = true → ∀ e, i ≤ e → e < i + d → e ≠ 0 → a (e - 1) < a e
  | 0, i, h, e, h1, h2, h3 => by omega
  | d + 1, i, h, e, h1, h2, h3 => by
    unfold riF at h
    cases hb : riB a o i with
    | true => rw [hb] at h; cases h
    | false =>
      rw [hb] at h
      by_cases he : e = i
      · subst he
        unfold riB at hb
        rw [Bool.or_eq_false_iff, show Nat.beq e 0 = false from Bool.eq_false_iff.2 fun h' => h3 (Nat.eq_of_beq_eq_true h')] at hb
        have := hb.1
        simp only [cond_false, decide_eq_false_iff_not] at this
        omega
      · exact riF_rise d (i + 1) h e (by omega) (by omega) h3
theorem so_ri (a o : Nat → Int) (k : Nat) : (soN a (k - 1) && riN k a o) = riN k a o := by
  cases h : riN k a o with
  | false => exact Bool.and_false _
  | true =>
    rw [Bool.and_true]
    refine (soN_spec (k - 1)).2 fun e he => ?_
    have := riF_rise k 0 h (e + 1) (by omega) (by omega) (by omega)
    rw [Nat.add_sub_cancel] at this; omega
theorem so_N2 : endsAt [] (Ly.run cxC 200 [] (Ly.start Try.f31 [.slice none 0 0, soF] (mkH []))) = some ([], .bool true, 0, []) := by kernel_rfl
def lvVn : List Value := slots 156 [(0, .slice none 0 0), (18, .slice none 0 0)]
theorem lvn_0 : headAt [0, 18] [] lvD (Ly.run cxL31 60 [] (Ly.start Try.f14 [.slice none 0 0] (mkH []))) = (true, [], true, (Try.f14, lvK0, none, 0), lvVn, []) := by kernel_rfl
theorem lvn_C : callOf env (mkSt Try.f14 lvK0 none 0 lvVn []) = some (31, [.slice none 0 0, soF]) := by kernel_rfl
def lvKn : List KI := ((Ly.run cxL 1 [] (behind (mkSt Try.f14 lvK0 none 0 lvVn []) (.bool true) H0)).st lvD).top.k
def lvVm : List Value := slots 156 [(0, .slice none 0 0), (19, .bool true), (20, .bool false)]
theorem lvn_G (H : Heap) : haltF [0, 19, 20] lvD (Ly.run cxL 1 [] (behind (mkSt Try.f14 lvK0 none 0 lvVn []) (.bool true) H)) = (true, [], true, (Try.f14, lvKn, none, 0), lvVm, H) := by kernel_rfl
theorem lvn_few (nx : Nat) : formOf [0, 19, 20] [] (atSt Try.f14 lvKn none 0 lvVm (vH [] [] nx)) = (true, (Try.f14, lvKn, none, 0), lvVm, []) := by kernel_rfl
theorem lvn_E : (Ly.run cxL 300 [] (mkSt Try.f14 lvKn none 0 lvVm [])).out? = some ([], okT 0 0) := by kernel_rfl
theorem live_nil : LCalls Try.prog 14 [.slice none 0 0] (mkH []) (fun u _ => EmpT false (.int .i64 0) u) := by
  refine LCalls_of cxL31_ok lvG (by kernel_rfl) ?_
  refine MWp.head cxL31_ok _ _ _ _ lvn_0 trivial (by intro o ho; cases ho) ?_
  refine MWp.call envOk lvn_C (Ends.of_run cxC_ok 200 _ soG (by kernel_rfl) so_N2 trivial) ?_
  rintro v K ⟨rfl, kn, _, kl⟩
  refine MWp.halted cxL_ok _ _ _ (lvn_G K) trivial ?_
  refine MWp.keepB (bs := []) (os := []) (os' := []) [0, 19, 20] kn kl rfl trivial rfl (lvn_few 0) (by intro o ho; cases ho) ?_
  exact MWp.out cxL_ok 300 _ lvn_E trivial (fun _ => .inr ⟨rfl, 0, rfl⟩)
def lvMk (n : Nat) (G : Nat → Nat → Value) (r : List Value) : PairB := match r with
  | [] => ⟨okN n G && ((List.range n).all fun e => inb (oOf G e)) && Nat.ble n 100, bif riN n (aOf G) (oOf G) then n else 0, livG (aOf G) (oOf G) (nOf G) n, .int .i64 (bif riN n (aOf G) (oOf G) then 0 else 1), !riN n (aOf G) (oOf G)⟩
  | _ => ⟨false, 0, fun _ => 0, .bool false, true⟩
def lvC : Heap → List Value → ER := rowsPairE 3 lvMk 3
theorem lvC_good (H : Heap) (args : List Value) : HGood Try.prog 14 args H (lvC H args) := by
  refine rowsPairE_good (fun n G r => ?_) (fun n G r hp hg h0 => ?_) (fun n G r hp hg h0 => ?_) (fun G r hp hg => ?_) H args
  · unfold lvMk; split <;> simp [plain]
  · unfold lvMk at hg h0 ⊢
    split at hg
    · simp only [Bool.and_eq_true, List.all_eq_true, List.mem_range] at hg
      obtain ⟨h1, h2⟩ := okN_eq hg.1.1
      have hk := Nat.le_of_ble_eq_true hg.2
      have hL := LCalls.argEq h2 (live_good (aOf G) (oOf G) (nOf G) n hk hg.1.2)
      cases hr : riN n (aOf G) (oOf G) with
      | false => rw [hr] at h0; exact absurd rfl h0
      | true =>
        refine ⟨1, hL.mono ?_⟩
        rintro u K (⟨hb, _⟩ | ⟨_, rfl, kl, g', kg, kv⟩)
        · rw [so_ri, hr] at hb; cases hb
        · exact ⟨rfl, ⟨_, kg, fun e he => by rw [kv e he]⟩, kl⟩
    · cases hg
  · unfold lvMk at hg h0 ⊢
    split at hg
    · simp only [Bool.and_eq_true, List.all_eq_true, List.mem_range] at hg
      obtain ⟨h1, h2⟩ := okN_eq hg.1.1
      have hk := Nat.le_of_ble_eq_true hg.2
      have hL := LCalls.argEq h2 (live_good (aOf G) (oOf G) (nOf G) n hk hg.1.2)
      cases hr : riN n (aOf G) (oOf G) with
      | false =>
        refine hL.mono ?_
        rintro u K (⟨_, rfl⟩ | ⟨hb, _⟩)
        · exact .inl ⟨rfl, rfl⟩
        · rw [so_ri, hr] at hb; cases hb
      | true =>
        rw [hr] at h0
        have h0 : n = 0 := h0
        refine hL.mono ?_
        rintro u K (⟨hb, _⟩ | ⟨_, rfl, _⟩)
        · rw [so_ri, hr] at hb; cases hb
        · exact .inr ⟨rfl, 1, by rw [h0]; rfl⟩
    · cases hg
  · unfold lvMk at hg ⊢
    split at hg
    · exact ⟨rfl, live_nil⟩
    · cases hg
end Go.Proofs.Ytdjmpilegommlaa
namespace Go.Proofs.Ytdjmpilegommlaa
open Go Go.Ly Go.RowKit
def cxU : Ctx := (((cxM.withC 18 riC).withH 15 ownC).withH 19 nxC).withH 14 lvC
theorem cxU_ok : cxU.Ok Try.prog := (((cxM_ok.withC riC_good).withH ownC_good).withH nxC_good).withH lvC_good
def lsD : St := Ly.start Try.f5 [] H0
end Go.Proofs.Ytdjmpilegommlaa
namespace Go.Proofs.Ytdjmpilegommlaa
open Go Go.Ly Go.RowKit
def lsR (a o : Nat → Int) (k : Nat) : Bool := riN k (sh (sh a)) (sh (sh o))
def lsM (a o : Nat → Int) (k : Nat) : Nat := bif lsR a o k then k else 0
def lsG (a o n : Nat → Int) (k : Nat) : Nat → Int := livG (sh (sh a)) (sh (sh o)) (sh (sh n)) k
def lsT1 (a o n : Nat → Int) (k : Nat) : Bool := Nat.ble (0 + k) k && ((okN k (fun e x => ndG (sh a) (sh o) (sh n) (0 + e) x) && ((List.range k).all fun e => inb (sh (sh o) e))) && Nat.ble k 100)
def lsTT (a o n : Nat → Int) (k : Nat) (l : List (Bool × Bool)) : List (Bool × Bool) := (decide ((40 : Int) < k), false) :: (rowT a o n k, true) :: (Nat.beq k 0, false) :: (lsT1 a o n k, true) :: l
def lsX (a o : Nat → Int) (k : Nat) : Int := bif lsR a o k then 0 else 1
def rowTr (a o n : Nat → Int) (k : Nat) : Bool := Nat.ble (0 + k) k && (okN k (fun e x => ndG a o n (0 + e) x) && (List.range k).all fun e => inb (sh o e))
def lsO (a o n g : Nat → Int) (k m : Nat) : List (Option LO) := [some (ndL a o n k), some (inL g m)]
end Go.Proofs.Ytdjmpilegommlaa
namespace Go.Proofs.Ytdjmpilegommlaa
open Go Go.Ly Go.RowKit
def lsQ (a o n g p : Nat → Int) (k m q : Nat) : List (Option LO) := [some (ndL a o n k), some (inL g m), some (inL p q)]
end Go.Proofs.Ytdjmpilegommlaa
namespace Go.Proofs.Ytdjmpilegommlaa
open Go Go.Ly Go.RowKit
def a6 (k : Nat) (a : Nat → Int) (x : Int) : Int := at6 k (sh a) x
def st34 (a o n : Nat → Int) (k : Nat) (op : Bool) (w t : Value) (c : Int) (bl : List (Option LO)) : St := mkSt Try.f34 k34 none 1 (v34 k op w t c) (some (ndL a o n k) :: bl)
theorem r6_0 (a o n : Nat → Int) (k : Nat) (op : Bool) (x y u v c : Int) : headAt [0, 9, 10, 11, 12] [0] s34D (Ly.run cyN 46 [(0, true)] (st34 a o n k op (.slice none 0 0) (.slice none 0 0) c [])) = (true, [(decide (c < k), true)], true, (Try.f34, k34, none, 1), v34 k op (.slice none 0 0) (.slice none 0 0) (jW c), [some (ndL a o n k)]) := by kernel_rfl
theorem r6_10h (a o n : Nat → Int) (k : Nat) (op : Bool) (x y u v c : Int) : headAt [0, 9, 10, 11, 12] [0, 1, 3] s34D (Ly.run cyN 85 [(0, true), (8, true), (4, true)] (st34 a o n k op (sl 1 1) (.slice none 0 0) c [some (rowI [x])])) = (true, [(decide (c < k), true), (rowT a o n k, true), (a6 k a x == c, true)], true, (Try.f34, k34, none, 1), v34 k op (sl 1 1) (sl 2 1) (jW c), [some (ndL a o n k), some (rowI [x]), some (rowI [c])]) := by kernel_rfl
theorem r6_10m (a o n : Nat → Int) (k : Nat) (op : Bool) (x y u v c : Int) : headAt [0, 9, 10, 11, 12] [0, 1] s34D (Ly.run cyN 79 [(0, true), (8, true), (4, false)] (st34 a o n k op (sl 1 1) (.slice none 0 0) c [some (rowI [x])])) = (true, [(decide (c < k), true), (rowT a o n k, true), (a6 k a x == c, false)], true, (Try.f34, k34, none, 1), v34 k op (sl 1 1) (.slice none 0 0) (jW c), [some (ndL a o n k), some (rowI [x])]) := by kernel_rfl
theorem r6_11h (a o n : Nat → Int) (k : Nat) (op : Bool) (x y u v c : Int) : headAt [0, 9, 10, 11, 12] [0, 1, 4] s34D (Ly.run cyN 85 [(0, true), (8, true), (4, true)] (st34 a o n k op (sl 1 1) (sl 2 1) c [some (rowI [x]), some (rowI [u])])) = (true, [(decide (c < k), true), (rowT a o n k, true), (a6 k a x == c, true)], true, (Try.f34, k34, none, 1), v34 k op (sl 1 1) (sl 2 2) (jW c), [some (ndL a o n k), some (rowI [x]), some (rowI [u, c])]) := by kernel_rfl
theorem r6_11m (a o n : Nat → Int) (k : Nat) (op : Bool) (x y u v c : Int) : headAt [0, 9, 10, 11, 12] [0, 1, 2] s34D (Ly.run cyN 79 [(0, true), (8, true), (4, false)] (st34 a o n k op (sl 1 1) (sl 2 1) c [some (rowI [x]), some (rowI [u])])) = (true, [(decide (c < k), true), (rowT a o n k, true), (a6 k a x == c, false)], true, (Try.f34, k34, none, 1), v34 k op (sl 1 1) (sl 2 1) (jW c), [some (ndL a o n k), some (rowI [x]), some (rowI [u])]) := by kernel_rfl
theorem r6_20x (a o n : Nat → Int) (k : Nat) (op : Bool) (x y u v c : Int) : headAt [0, 9, 10, 11, 12] [0, 1, 3] s34D (Ly.run cyN 118 [(0, true), (8, true), (4, false)] (st34 a o n k op (sl 1 2) (.slice none 0 0) c [some (rowI [x, y])])) = (true, [(decide (c < k), true), (rowT a o n k, true), ((a6 k a x == c) == false, false)], true, (Try.f34, k34, none, 1), v34 k op (sl 1 2) (sl 2 1) (jW c), [some (ndL a o n k), some (rowI [x, y]), some (rowI [c])]) := by kernel_rfl
theorem r6_20y (a o n : Nat → Int) (k : Nat) (op : Bool) (x y u v c : Int) : headAt [0, 9, 10, 11, 12] [0, 1, 3] s34D (Ly.run cyN 118 [(0, true), (8, true), (4, true), (6, true), (4, true)] (st34 a o n k op (sl 1 2) (.slice none 0 0) c [some (rowI [x, y])])) = (true, [(decide (c < k), true), (rowT a o n k, true), ((a6 k a x == c) == false, true), (rowT a o n k, true), (a6 k a y == c, true)], true, (Try.f34, k34, none, 1), v34 k op (sl 1 2) (sl 2 1) (jW c), [some (ndL a o n k), some (rowI [x, y]), some (rowI [c])]) := by kernel_rfl
theorem r6_20m (a o n : Nat → Int) (k : Nat) (op : Bool) (x y u v c : Int) : headAt [0, 9, 10, 11, 12] [0, 1] s34D (Ly.run cyN 112 [(0, true), (8, true), (4, true), (6, true), (4, false)] (st34 a o n k op (sl 1 2) (.slice none 0 0) c [some (rowI [x, y])])) = (true, [(decide (c < k), true), (rowT a o n k, true), ((a6 k a x == c) == false, true), (rowT a o n k, true), (a6 k a y == c, false)], true, (Try.f34, k34, none, 1), v34 k op (sl 1 2) (.slice none 0 0) (jW c), [some (ndL a o n k), some (rowI [x, y])]) := by kernel_rfl
theorem r6_21x (a o n : Nat → Int) (k : Nat) (op : Bool) (x y u v c : Int) : headAt [0, 9, 10, 11, 12] [0, 1, 4] s34D (Ly.run cyN 118 [(0, true), (8, true), (4, false)] (st34 a o n k op (sl 1 2) (sl 2 1) c [some (rowI [x, y]), some (rowI [u])])) = (true, [(decide (c < k), true), (rowT a o n k, true), ((a6 k a x == c) == false, false)], true, (Try.f34, k34, none, 1), v34 k op (sl 1 2) (sl 2 2) (jW c), [some (ndL a o n k), some (rowI [x, y]), some (rowI [u, c])]) := by kernel_rfl
theorem r6_21y (a o n : Nat → Int) (k : Nat) (op : Bool) (x y u v c : Int) : headAt [0, 9, 10, 11, 12] [0, 1, 4] s34D (Ly.run cyN 118 [(0, true), (8, true), (4, true), (6, true), (4, true)] (st34 a o n k op (sl 1 2) (sl 2 1) c [some (rowI [x, y]), some (rowI [u])])) = (true, [(decide (c < k), true), (rowT a o n k, true), ((a6 k a x == c) == false, true), (rowT a o n k, true), (a6 k a y == c, true)], true, (Try.f34, k34, none, 1), v34 k op (sl 1 2) (sl 2 2) (jW c), [some (ndL a o n k), some (rowI [x, y]), some (rowI [u, c])]) := by kernel_rfl
theorem r6_21m (a o n : Nat → Int) (k : Nat) (op : Bool) (x y u v c : Int) : headAt [0, 9, 10, 11, 12] [0, 1, 2] s34D (Ly.run cyN 112 [(0, true), (8, true), (4, true), (6, true), (4, false)] (st34 a o n k op (sl 1 2) (sl 2 1) c [some (rowI [x, y]), some (rowI [u])])) = (true, [(decide (c < k), true), (rowT a o n k, true), ((a6 k a x == c) == false, true), (rowT a o n k, true), (a6 k a y == c, false)], true, (Try.f34, k34, none, 1), v34 k op (sl 1 2) (sl 2 1) (jW c), [some (ndL a o n k), some (rowI [x, y]), some (rowI [u])]) := by kernel_rfl
theorem r6_22m (a o n : Nat → Int) (k : Nat) (op : Bool) (x y u v c : Int) : headAt [0, 9, 10, 11, 12] [0, 1, 2] s34D (Ly.run cyN 112 [(0, true), (8, true), (4, true), (6, true), (4, false)] (st34 a o n k op (sl 1 2) (sl 2 2) c [some (rowI [x, y]), some (rowI [u, v])])) = (true, [(decide (c < k), true), (rowT a o n k, true), ((a6 k a x == c) == false, true), (rowT a o n k, true), (a6 k a y == c, false)], true, (Try.f34, k34, none, 1), v34 k op (sl 1 2) (sl 2 2) (jW c), [some (ndL a o n k), some (rowI [x, y]), some (rowI [u, v])]) := by kernel_rfl
theorem e6_00 (a o n : Nat → Int) (k : Nat) (op : Bool) (x y u v c : Int) : (Ly.run cyN 250 [(0, false)] (st34 a o n k op (.slice none 0 0) (.slice none 0 0) c [])).out? = some ([(decide (c < k), false)], nilT (op)) := by kernel_rfl
theorem e6_1t0 (a o n : Nat → Int) (k : Nat) (op : Bool) (x y u v c : Int) : (Ly.run cyN 250 [(0, false), (1, false)] (st34 a o n k op (sl 1 1) (.slice none 0 0) c [some (rowI [x])])).out? = some ([(decide (c < k), false), (op == false, false)], nilT (true)) := by kernel_rfl
theorem e6_1t1 (a o n : Nat → Int) (k : Nat) (op : Bool) (x y u v c : Int) : endsAt [2] (Ly.run cyN 250 [(0, false), (1, false)] (st34 a o n k op (sl 1 1) (sl 2 1) c [some (rowI [x]), some (rowI [u])])) = some ([(decide (c < k), false), (op == false, false)], rowP 2 1 (true), 3, [some (rowI [u])]) := by kernel_rfl
theorem e6_1f0 (a o n : Nat → Int) (k : Nat) (op : Bool) (x y u v c : Int) : (Ly.run cyN 250 [(0, false), (1, true), (6, true)] (st34 a o n k op (sl 1 1) (.slice none 0 0) c [some (rowI [x])])).out? = some ([(decide (c < k), false), (op == false, true), (rowT a o n k, true)], nilT (decide (a6 k a x < 0))) := by kernel_rfl
theorem e6_1f1 (a o n : Nat → Int) (k : Nat) (op : Bool) (x y u v c : Int) : endsAt [2] (Ly.run cyN 250 [(0, false), (1, true), (6, true)] (st34 a o n k op (sl 1 1) (sl 2 1) c [some (rowI [x]), some (rowI [u])])) = some ([(decide (c < k), false), (op == false, true), (rowT a o n k, true)], rowP 2 1 (decide (a6 k a x < 0)), 3, [some (rowI [u])]) := by kernel_rfl
theorem e6_2t0 (a o n : Nat → Int) (k : Nat) (op : Bool) (x y u v c : Int) : (Ly.run cyN 250 [(0, false), (1, false)] (st34 a o n k op (sl 1 2) (.slice none 0 0) c [some (rowI [x, y])])).out? = some ([(decide (c < k), false), (op == false, false)], nilT (true)) := by kernel_rfl
theorem e6_2t1 (a o n : Nat → Int) (k : Nat) (op : Bool) (x y u v c : Int) : endsAt [2] (Ly.run cyN 250 [(0, false), (1, false)] (st34 a o n k op (sl 1 2) (sl 2 1) c [some (rowI [x, y]), some (rowI [u])])) = some ([(decide (c < k), false), (op == false, false)], rowP 2 1 (true), 3, [some (rowI [u])]) := by kernel_rfl
theorem e6_2t2 (a o n : Nat → Int) (k : Nat) (op : Bool) (x y u v c : Int) : endsAt [2] (Ly.run cyN 250 [(0, false), (1, false)] (st34 a o n k op (sl 1 2) (sl 2 2) c [some (rowI [x, y]), some (rowI [u, v])])) = some ([(decide (c < k), false), (op == false, false)], rowP 2 2 (true), 3, [some (rowI [u, v])]) := by kernel_rfl
theorem e6_2f0 (a o n : Nat → Int) (k : Nat) (op : Bool) (x y u v c : Int) : (Ly.run cyN 250 [(0, false), (1, true), (6, true), (3, false)] (st34 a o n k op (sl 1 2) (.slice none 0 0) c [some (rowI [x, y])])).out? = some ([(decide (c < k), false), (op == false, true), (rowT a o n k, true), (decide (a6 k a x < 0) == false, false)], nilT (true)) := by kernel_rfl
theorem e6_2f1 (a o n : Nat → Int) (k : Nat) (op : Bool) (x y u v c : Int) : endsAt [2] (Ly.run cyN 250 [(0, false), (1, true), (6, true), (3, false)] (st34 a o n k op (sl 1 2) (sl 2 1) c [some (rowI [x, y]), some (rowI [u])])) = some ([(decide (c < k), false), (op == false, true), (rowT a o n k, true), (decide (a6 k a x < 0) == false, false)], rowP 2 1 (true), 3, [some (rowI [u])]) := by kernel_rfl
theorem e6_2f2 (a o n : Nat → Int) (k : Nat) (op : Bool) (x y u v c : Int) : endsAt [2] (Ly.run cyN 250 [(0, false), (1, true), (6, true), (3, false)] (st34 a o n k op (sl 1 2) (sl 2 2) c [some (rowI [x, y]), some (rowI [u, v])])) = some ([(decide (c < k), false), (op == false, true), (rowT a o n k, true), (decide (a6 k a x < 0) == false, false)], rowP 2 2 (true), 3, [some (rowI [u, v])]) := by kernel_rfl
theorem e6_2g0 (a o n : Nat → Int) (k : Nat) (op : Bool) (x y u v c : Int) : (Ly.run cyN 250 [(0, false), (1, true), (6, true), (3, true), (6, true)] (st34 a o n k op (sl 1 2) (.slice none 0 0) c [some (rowI [x, y])])).out? = some ([(decide (c < k), false), (op == false, true), (rowT a o n k, true), (decide (a6 k a x < 0) == false, true), (rowT a o n k, true)], nilT (decide (a6 k a y < 0))) := by kernel_rfl
theorem e6_2g1 (a o n : Nat → Int) (k : Nat) (op : Bool) (x y u v c : Int) : endsAt [2] (Ly.run cyN 250 [(0, false), (1, true), (6, true), (3, true), (6, true)] (st34 a o n k op (sl 1 2) (sl 2 1) c [some (rowI [x, y]), some (rowI [u])])) = some ([(decide (c < k), false), (op == false, true), (rowT a o n k, true), (decide (a6 k a x < 0) == false, true), (rowT a o n k, true)], rowP 2 1 (decide (a6 k a y < 0)), 3, [some (rowI [u])]) := by kernel_rfl
theorem e6_2g2 (a o n : Nat → Int) (k : Nat) (op : Bool) (x y u v c : Int) : endsAt [2] (Ly.run cyN 250 [(0, false), (1, true), (6, true), (3, true), (6, true)] (st34 a o n k op (sl 1 2) (sl 2 2) c [some (rowI [x, y]), some (rowI [u, v])])) = some ([(decide (c < k), false), (op == false, true), (rowT a o n k, true), (decide (a6 k a x < 0) == false, true), (rowT a o n k, true)], rowP 2 2 (decide (a6 k a y < 0)), 3, [some (rowI [u, v])]) := by kernel_rfl
end Go.Proofs.Ytdjmpilegommlaa
namespace Go.Proofs.Ytdjmpilegommlaa
open Go Go.Ly Go.RowKit
theorem i64_and16 (n : Int) : bits .and .i64 n 65535 = n % 65536 := by
  have h127 : (BitVec.ofInt 64 65535).toNat = 2 ^ 16 - 1 := by decide
  have key : (BitVec.ofInt 64 n &&& BitVec.ofInt 64 65535).toNat = (n % ((2 ^ 64 : Nat) : Int)).toNat % 2 ^ 16 := by
    rw [BitVec.toNat_and, BitVec.toNat_ofInt, h127, Nat.and_two_pow_sub_one_eq_mod]
  show IntKind.i64.wrap ((BitVec.ofInt 64 n &&& BitVec.ofInt 64 65535).toNat : Nat) = n % 65536
  rw [key, IntKind.wrap_i64]
  omega
def T2 (x y c : Int) : List Int := if 0 ≤ x ∧ x < c then (if 0 ≤ y ∧ y < c then (if x < y then [x, y] else if y < x then [y, x] else [x]) else [x]) else if 0 ≤ y ∧ y < c then [y] else []
theorem T2_zero (x y : Int) : T2 x y ((0 : Nat) : Int) = [] := by
  unfold T2
  rw [if_neg (by omega), if_neg (by omega)]
theorem T2_miss {x y : Int} {c : Nat} (hx : x ≠ c) (hy : y ≠ c) : T2 x y ((c + 1 : Nat) : Int) = T2 x y c := by
  have e1 : (0 ≤ x ∧ x < ((c + 1 : Nat) : Int)) ↔ (0 ≤ x ∧ x < (c : Int)) := by omega
  have e2 : (0 ≤ y ∧ y < ((c + 1 : Nat) : Int)) ↔ (0 ≤ y ∧ y < (c : Int)) := by omega
  unfold T2
  simp only [e1, e2]
theorem T2_hitx {x y : Int} {c : Nat} (hx : x = c) : T2 x y ((c + 1 : Nat) : Int) = T2 x y c ++ [(c : Int)] := by
  subst hx
  unfold T2
  rw [if_pos (by omega), if_neg (show ¬ (0 ≤ (c : Int) ∧ (c : Int) < c) by omega)]
  by_cases h1 : 0 ≤ y ∧ y < (c : Int)
  · rw [if_pos (by omega), if_neg (by omega), if_pos (by omega), if_pos h1]; rfl
  · rw [if_neg h1]
    by_cases h2 : y = c
    · subst h2
      rw [if_pos (by omega), if_neg (by omega), if_neg (by omega)]; rfl
    · rw [if_neg (by omega)]; rfl
theorem T2_hity {x y : Int} {c : Nat} (hx : x ≠ c) (hy : y = c) : T2 x y ((c + 1 : Nat) : Int) = T2 x y c ++ [(c : Int)] := by
  subst hy
  unfold T2
  rw [if_neg (show ¬ (0 ≤ (c : Int) ∧ (c : Int) < c) by omega), if_neg (show ¬ (0 ≤ (c : Int) ∧ (c : Int) < c) by omega), if_pos (show 0 ≤ (c : Int) ∧ (c : Int) < ((c + 1 : Nat) : Int) by omega)]
  by_cases h1 : 0 ≤ x ∧ x < (c : Int)
  · rw [if_pos (by omega), if_pos (by omega), if_pos h1]; rfl
  · rw [if_neg h1, if_neg (by omega), if_pos (by omega)]; rfl
theorem T2_shape (x y c : Int) : T2 x y c = [] ∨ (∃ u, T2 x y c = [u]) ∨ ∃ u v, T2 x y c = [u, v] := by
  unfold T2
  repeat' split
  all_goals simp
theorem T2_two {x y : Int} {c : Int} {u v : Int} (h : T2 x y c = [u, v]) : x < c ∧ y < c ∧ x ≠ y := by
  unfold T2 at h
  split at h
  · split at h
    · split at h
      · omega
      · split at h
        · omega
        · simp at h
    · simp at h
  · split at h <;> simp at h
def tv6 : List Int → Value
  | [] => .slice none 0 0
  | u :: l => sl 2 (u :: l).length
def tb6 : List Int → List (Option LO)
  | [] => []
  | u :: l => [some (rowI (u :: l))]
def NxE (T : List Int) (r : Bool) (v : Value) (K : Heap) : Prop := (T = [] ∧ v = nilT r) ∨ (T ≠ [] ∧ v = rowP 2 T.length r ∧ K.get 2 = some (rowI T) ∧ K.lock = 0)
theorem fin_nil {S : St} {p : Path} {t : List (Bool × Bool)} {r res : Bool} {T : List Int} (h : (Ly.run cyN 250 p S).out? = some (t, nilT r)) (ht : trusted t) (hT : T = []) (hr : r = res) : MWp Try.prog S (NxE T res) :=
  MWp.out cyN_ok 250 p h ht (fun _ => .inl ⟨hT, by rw [hr]⟩)
theorem fin_row {S : St} {p : Path} {t : List (Bool × Bool)} {r res : Bool} {T : List Int} {m : Nat} (h : endsAt [2] (Ly.run cyN 250 p S) = some (t, rowP 2 m r, 3, [some (rowI T)])) (ht : trusted t) (hT : T ≠ []) (hm : m = T.length) (hr : r = res) : MWp Try.prog S (NxE T res) := by
  refine (MWp.ends cyN_ok 250 p h ht).mono ?_
  rintro v K ⟨e1, _, e2, e3⟩
  simp only [List.map_cons, List.map_nil, List.cons.injEq, and_true] at e2
  exact .inr ⟨hT, by rw [e1, hm, hr], e2, e3⟩
theorem l6_P (a o n : Nat → Int) (k : Nat) (l : List (List Int)) : ∀ y ∈ some (ndL a o n k) :: l.map (fun q => some (rowI q)), ∀ z, y = some z → plainO z := by
  intro y hy z hz
  rcases List.mem_cons.1 hy with rfl | hy
  · simp only [Option.some.injEq] at hz; subst hz; exact plain_ndL _ _ _ _
  · obtain ⟨q, _, rfl⟩ := List.mem_map.1 hy
    simp only [Option.some.injEq] at hz; subst hz; exact trivial
section
variable {a o n : Nat → Int} {k : Nat}
theorem lp0 (op : Bool) : ∀ (d c : Nat), c + d = k → k ≤ 4294967000 → MWp Try.prog (st34 a o n k op (.slice none 0 0) (.slice none 0 0) c []) (NxE [] op)
  | 0, c, hd, hk => by
    obtain rfl : c = k := by omega
    exact fin_nil (e6_00 a o n c op 0 0 0 0 c) (by simp only [trusted, show decide ((c : Int) < (c : Nat)) = false by rw [decide_eq_false_iff_not]; omega, and_self]) rfl rfl
  | d + 1, c, hd, hk => by
    obtain ⟨i1, _, _, _⟩ := ix_tests (show c < k by omega)
    have hjw : jW (c : Int) = ((c + 1 : Nat) : Int) := by unfold jW; rw [IntKind.wrap_i64]; omega
    refine MWp.head cyN_ok _ _ _ _ (r6_0 a o n k op 0 0 0 0 c) (by simp only [trusted, i1, and_self]) (l6_P a o n k []) ?_
    rw [hjw]
    exact lp0 op d (c + 1) (by omega) hk
theorem lp1 (hr : rowT a o n k = true) (op : Bool) (x : Int) : ∀ (d c : Nat), c + d = k → k ≤ 4294967000 → MWp Try.prog (st34 a o n k op (sl 1 1) (tv6 (T2 (a6 k a x) (a6 k a x) c)) c (some (rowI [x]) :: tb6 (T2 (a6 k a x) (a6 k a x) c))) (NxE (T2 (a6 k a x) (a6 k a x) k) (op || decide (a6 k a x < 0)))
  | 0, c, hd, hk => by
    obtain rfl : c = k := by omega
    have e0 : decide ((c : Int) < (c : Nat)) = false := by rw [decide_eq_false_iff_not]; omega
    rcases T2_shape (a6 c a x) (a6 c a x) c with hT | ⟨u, hT⟩ | ⟨u, v, hT⟩
    · rw [hT]
      cases op with
      | true => exact fin_nil (e6_1t0 a o n c true x 0 0 0 c) (by simp only [trusted, e0, and_self, Bool.true_eq_false, beq_iff_eq, beq_eq_false_iff_ne, ne_eq, not_false_eq_true]) rfl rfl
      | false => exact fin_nil (e6_1f0 a o n c false x 0 0 0 c) (by simp only [trusted, e0, hr, and_self, beq_self_eq_true]) rfl (by simp)
    · rw [hT]
      cases op with
      | true => exact fin_row (e6_1t1 a o n c true x 0 u 0 c) (by simp only [trusted, e0, and_self, Bool.true_eq_false, beq_iff_eq, beq_eq_false_iff_ne, ne_eq, not_false_eq_true]) (by simp) rfl rfl
      | false => exact fin_row (e6_1f1 a o n c false x 0 u 0 c) (by simp only [trusted, e0, hr, and_self, beq_self_eq_true]) (by simp) rfl (by simp)
    · exact absurd rfl (T2_two hT).2.2
  | d + 1, c, hd, hk => by
    obtain ⟨i1, _, _, _⟩ := ix_tests (show c < k by omega)
    have hjw : jW (c : Int) = ((c + 1 : Nat) : Int) := by unfold jW; rw [IntKind.wrap_i64]; omega
    have next := lp1 hr op x d (c + 1) (by omega) hk
    cases hx : (a6 k a x == (c : Int)) with
    | true =>
      have hx' : a6 k a x = c := by simpa using hx
      rw [T2_hitx hx'] at next
      rcases T2_shape (a6 k a x) (a6 k a x) c with hT | ⟨u, hT⟩ | ⟨u, v, hT⟩
      · rw [hT] at next ⊢
        refine MWp.head cyN_ok _ _ _ _ (r6_10h a o n k op x 0 0 0 c) (by simp only [trusted, i1, hr, hx, and_self]) (l6_P a o n k [[x], [(c : Int)]]) ?_
        rw [hjw]; exact next
      · rw [hT] at next ⊢
        refine MWp.head cyN_ok _ _ _ _ (r6_11h a o n k op x 0 u 0 c) (by simp only [trusted, i1, hr, hx, and_self]) (l6_P a o n k [[x], [u, (c : Int)]]) ?_
        rw [hjw]; exact next
      · exact absurd rfl (T2_two hT).2.2
    | false =>
      have hx' : a6 k a x ≠ c := by simpa using hx
      rw [T2_miss hx' hx'] at next
      rcases T2_shape (a6 k a x) (a6 k a x) c with hT | ⟨u, hT⟩ | ⟨u, v, hT⟩
      · rw [hT] at next ⊢
        refine MWp.head cyN_ok _ _ _ _ (r6_10m a o n k op x 0 0 0 c) (by simp only [trusted, i1, hr, hx, and_self]) (l6_P a o n k [[x]]) ?_
        rw [hjw]; exact next
      · rw [hT] at next ⊢
        refine MWp.head cyN_ok _ _ _ _ (r6_11m a o n k op x 0 u 0 c) (by simp only [trusted, i1, hr, hx, and_self]) (l6_P a o n k [[x], [u]]) ?_
        rw [hjw]; exact next
      · exact absurd rfl (T2_two hT).2.2
theorem lp2 (hr : rowT a o n k = true) (op : Bool) (x y : Int) : ∀ (d c : Nat), c + d = k → k ≤ 4294967000 → MWp Try.prog (st34 a o n k op (sl 1 2) (tv6 (T2 (a6 k a x) (a6 k a y) c)) c (some (rowI [x, y]) :: tb6 (T2 (a6 k a x) (a6 k a y) c))) (NxE (T2 (a6 k a x) (a6 k a y) k) (op || (decide (a6 k a x < 0) || decide (a6 k a y < 0))))
  | 0, c, hd, hk => by
    obtain rfl : c = k := by omega
    have e0 : decide ((c : Int) < (c : Nat)) = false := by rw [decide_eq_false_iff_not]; omega
    have t1 : trusted [(decide ((c : Int) < (c : Nat)), false), (true == false, false)] := by simp only [trusted, e0, and_self, Bool.true_eq_false, beq_iff_eq, beq_eq_false_iff_ne, ne_eq, not_false_eq_true]
    rcases T2_shape (a6 c a x) (a6 c a y) c with hT | ⟨u, hT⟩ | ⟨u, v, hT⟩
    · rw [hT]
      cases op with
      | true => exact fin_nil (e6_2t0 a o n c true x y 0 0 c) t1 rfl rfl
      | false =>
        cases hx : decide (a6 c a x < 0) with
        | true => exact fin_nil (e6_2f0 a o n c false x y 0 0 c) (by simp only [trusted, e0, hr, hx, and_self, beq_self_eq_true, Bool.true_eq_false, beq_iff_eq, beq_eq_false_iff_ne, ne_eq, not_false_eq_true]) rfl rfl
        | false => exact fin_nil (e6_2g0 a o n c false x y 0 0 c) (by simp only [trusted, e0, hr, hx, and_self, beq_self_eq_true]) rfl (by simp)
    · rw [hT]
      cases op with
      | true => exact fin_row (e6_2t1 a o n c true x y u 0 c) t1 (by simp) rfl rfl
      | false =>
        cases hx : decide (a6 c a x < 0) with
        | true => exact fin_row (e6_2f1 a o n c false x y u 0 c) (by simp only [trusted, e0, hr, hx, and_self, beq_self_eq_true, Bool.true_eq_false, beq_iff_eq, beq_eq_false_iff_ne, ne_eq, not_false_eq_true]) (by simp) rfl rfl
        | false => exact fin_row (e6_2g1 a o n c false x y u 0 c) (by simp only [trusted, e0, hr, hx, and_self, beq_self_eq_true]) (by simp) rfl (by simp)
    · rw [hT]
      cases op with
      | true => exact fin_row (e6_2t2 a o n c true x y u v c) t1 (by simp) rfl rfl
      | false =>
        cases hx : decide (a6 c a x < 0) with
        | true => exact fin_row (e6_2f2 a o n c false x y u v c) (by simp only [trusted, e0, hr, hx, and_self, beq_self_eq_true, Bool.true_eq_false, beq_iff_eq, beq_eq_false_iff_ne, ne_eq, not_false_eq_true]) (by simp) rfl rfl
        | false => exact fin_row (e6_2g2 a o n c false x y u v c) (by simp only [trusted, e0, hr, hx, and_self, beq_self_eq_true]) (by simp) rfl (by simp)
  | d + 1, c, hd, hk => by
    obtain ⟨i1, _, _, _⟩ := ix_tests (show c < k by omega)
    have hjw : jW (c : Int) = ((c + 1 : Nat) : Int) := by unfold jW; rw [IntKind.wrap_i64]; omega
    have next := lp2 hr op x y d (c + 1) (by omega) hk
    cases hx : (a6 k a x == (c : Int)) with
    | true =>
      have hx' : a6 k a x = c := by simpa using hx
      have hxf : ((a6 k a x == (c : Int)) == false) = false := by rw [hx]; rfl
      rw [T2_hitx hx'] at next
      rcases T2_shape (a6 k a x) (a6 k a y) c with hT | ⟨u, hT⟩ | ⟨u, v, hT⟩
      · rw [hT] at next ⊢
        refine MWp.head cyN_ok _ _ _ _ (r6_20x a o n k op x y 0 0 c) (by simp only [trusted, i1, hr, hxf, and_self]) (l6_P a o n k [[x, y], [(c : Int)]]) ?_
        rw [hjw]; exact next
      · rw [hT] at next ⊢
        refine MWp.head cyN_ok _ _ _ _ (r6_21x a o n k op x y u 0 c) (by simp only [trusted, i1, hr, hxf, and_self]) (l6_P a o n k [[x, y], [u, (c : Int)]]) ?_
        rw [hjw]; exact next
      · have := (T2_two hT).1; omega
    | false =>
      have hx' : a6 k a x ≠ c := by simpa using hx
      have hxf : ((a6 k a x == (c : Int)) == false) = true := by rw [hx]; rfl
      cases hy : (a6 k a y == (c : Int)) with
      | true =>
        have hy' : a6 k a y = c := by simpa using hy
        rw [T2_hity hx' hy'] at next
        rcases T2_shape (a6 k a x) (a6 k a y) c with hT | ⟨u, hT⟩ | ⟨u, v, hT⟩
        · rw [hT] at next ⊢
          refine MWp.head cyN_ok _ _ _ _ (r6_20y a o n k op x y 0 0 c) (by simp only [trusted, i1, hr, hxf, hy, and_self]) (l6_P a o n k [[x, y], [(c : Int)]]) ?_
          rw [hjw]; exact next
        · rw [hT] at next ⊢
          refine MWp.head cyN_ok _ _ _ _ (r6_21y a o n k op x y u 0 c) (by simp only [trusted, i1, hr, hxf, hy, and_self]) (l6_P a o n k [[x, y], [u, (c : Int)]]) ?_
          rw [hjw]; exact next
        · have := (T2_two hT).2.1; omega
      | false =>
        have hy' : a6 k a y ≠ c := by simpa using hy
        rw [T2_miss hx' hy'] at next
        rcases T2_shape (a6 k a x) (a6 k a y) c with hT | ⟨u, hT⟩ | ⟨u, v, hT⟩
        · rw [hT] at next ⊢
          refine MWp.head cyN_ok _ _ _ _ (r6_20m a o n k op x y 0 0 c) (by simp only [trusted, i1, hr, hxf, hy, and_self]) (l6_P a o n k [[x, y]]) ?_
          rw [hjw]; exact next
        · rw [hT] at next ⊢
          refine MWp.head cyN_ok _ _ _ _ (r6_21m a o n k op x y u 0 c) (by simp only [trusted, i1, hr, hxf, hy, and_self]) (l6_P a o n k [[x, y], [u]]) ?_
          rw [hjw]; exact next
        · rw [hT] at next ⊢
          refine MWp.head cyN_ok _ _ _ _ (r6_22m a o n k op x y u v c) (by simp only [trusted, i1, hr, hxf, hy, and_self]) (l6_P a o n k [[x, y], [u, v]]) ?_
          rw [hjw]; exact next
end
end Go.Proofs.Ytdjmpilegommlaa
namespace Go.Proofs.Ytdjmpilegommlaa
open Go Go.Ly Go.RowKit
def kd (n : Nat) : Nat := bif Nat.beq n 0xc9 || Nat.beq n 0xe9 || Nat.beq n 0x76 then 0 else bif Nat.ble 192 n && Nat.beq (n % 8) 0 then 1 else bif Nat.ble 192 n && (Nat.beq (n % 8) 2 || Nat.beq (n % 8) 4) then 2 else bif Nat.beq n 0xc3 then 4 else bif Nat.beq n 0xcd then 5 else bif Nat.ble 192 n && Nat.beq (n % 8) 7 then 6 else 3
abbrev K9 := Bool × Bool × Bool × Bool × Bool × Bool × Bool × Bool × Bool
def kdV (x : Int) : K9 := (amB (nameT x), decide (0 ≤ condT x), endsB x, strEq (nameT x) ⟨#[67, 65, 76, 76]⟩, bits .and .u8 x 199 == 199, jumpsB x, bits .and .u8 x 199 == 192, x == 205, x == 195)
def kdE : Nat → K9
  | 0 => (true, false, true, false, false, false, false, false, false)
  | 1 => (false, true, false, false, false, false, true, false, false)
  | 2 => (false, true, false, false, false, true, false, false, false)
  | 3 => (false, false, false, false, false, false, false, false, false)
  | 4 => (false, false, true, false, false, true, false, false, true)
  | 5 => (false, false, false, true, false, true, false, true, false)
  | _ => (false, false, false, false, true, false, false, false, false)
def eqK : K9 → K9 → Bool
  | (a1, a2, a3, a4, a5, a6, a7, a8, a9), (b1, b2, b3, b4, b5, b6, b7, b8, b9) => a1 == b1 && (a2 == b2 && (a3 == b3 && (a4 == b4 && (a5 == b5 && (a6 == b6 && (a7 == b7 && (a8 == b8 && a9 == b9)))))))
def kdC (n : Nat) : Bool := eqK (kdV (n : Int)) (kdE (kd n)) && (isN (nameT (n : Int)) && ((!decide (0 ≤ condT (n : Int)) || (bits .and .u8 (n : Int) 7 == 0) == (bits .and .u8 (n : Int) 199 == 192)) && ((decide (0 ≤ sizeT (n : Int)) && decide (sizeT (n : Int) ≤ 3)) && (decide (0 ≤ bits .and .u8 (n : Int) 56) && decide (bits .and .u8 (n : Int) 56 ≤ 255)))))
theorem kd_t : ((List.range 256).all kdC) = true := by kernel_rfl
theorem eqK_eq {a b : K9} (h : eqK a b = true) : a = b := by
  obtain ⟨a1, a2, a3, a4, a5, a6, a7, a8, a9⟩ := a
  obtain ⟨b1, b2, b3, b4, b5, b6, b7, b8, b9⟩ := b
  simp only [eqK, Bool.and_eq_true, beq_iff_eq] at h
  obtain ⟨rfl, rfl, rfl, rfl, rfl, rfl, rfl, rfl, rfl⟩ := h
  rfl
theorem kd_all {n : Nat} (h : n < 256) : kdV (n : Int) = kdE (kd n) ∧ isN (nameT (n : Int)) = true ∧ (0 ≤ condT (n : Int) → (bits .and .u8 (n : Int) 7 == 0) = (bits .and .u8 (n : Int) 199 == 192)) ∧ (0 ≤ sizeT (n : Int) ∧ sizeT (n : Int) ≤ 3) ∧ (0 ≤ bits .and .u8 (n : Int) 56 ∧ bits .and .u8 (n : Int) 56 ≤ 255) := by
  have := List.all_eq_true.1 kd_t n (List.mem_range.2 h)
  simp only [kdC, Bool.and_eq_true, Bool.or_eq_true, Bool.not_eq_true', decide_eq_true_eq, decide_eq_false_iff_not, beq_iff_eq] at this
  obtain ⟨h1, h2, h3, h4, h5⟩ := this
  exact ⟨eqK_eq h1, h2, fun hc => h3.resolve_left (fun q => q hc), h4, h5⟩
theorem ixF_congr {a b : Nat → Int} {x : Int} : ∀ (d i : Nat), (∀ e, i ≤ e → e < i + d → a e = b e) → ixF a x d i = ixF b x d i
  | 0, i, h => rfl
  | d + 1, i, h => by
    unfold ixF
    rw [h i (by omega) (by omega), ixF_congr d (i + 1) (fun e h1 h2 => h e (by omega) (by omega))]
theorem ixF_lt {a : Nat → Int} {x : Int} : ∀ (d i : Nat), ixF a x d i < ((i + d : Nat) : Int)
  | 0, i => by unfold ixF; omega
  | d + 1, i => by
    unfold ixF
    cases (a i == x) with
    | true => rw [cond_true]; omega
    | false => rw [cond_false]; have := @ixF_lt a x d (i + 1); omega
def W16 (x : Int) : Prop := 0 ≤ x ∧ x ≤ 65535
theorem t6W_in {x : Int} (h : W16 x) : t6W x = x := by unfold t6W; rw [IntKind.wrap_i64]; unfold W16 at h; omega
theorem a6_at {k : Nat} {a : Nat → Int} {x y : Int} (ha : ∀ e, e < k → W16 (a e)) (hxy : x % 65536 = y) : a6 k a x = atN k (sh a) y := by
  unfold a6 at6 atN t6X
  rw [i64_and16, hxy, sh_eq]
  exact ixF_congr k 0 (fun e _ he => t6W_in (ha e (by omega)))
theorem a6_lt (k : Nat) (a : Nat → Int) (x : Int) : a6 k a x < k := by
  have := @ixF_lt (fun e => t6W (sh a e)) (t6X x) k 0
  unfold a6 at6; omega
theorem nxo_eq {X : Int} {k : Nat} (r : Bool) (h : X < k) : nxOne X r = (T2 X X k, r || decide (X < 0)) := by
  unfold nxOne T2
  by_cases h0 : X < 0
  · rw [decide_eq_true h0, if_neg (by omega), if_neg (by omega)]; simp
  · rw [decide_eq_false h0, if_pos (by omega), if_pos (by omega), if_neg (by omega), if_neg (by omega)]; simp
theorem nxt_eq {X Y : Int} {k : Nat} (r : Bool) (hX : X < k) (hY : Y < k) : nxTwo Y X r = (T2 X Y k, r || (decide (X < 0) || decide (Y < 0))) := by
  unfold nxTwo T2
  by_cases y0 : Y < 0
  · rw [decide_eq_true y0]
    by_cases x0 : X < 0
    · rw [decide_eq_true x0, if_neg (by omega), if_neg (by omega)]; simp
    · rw [decide_eq_false x0, if_pos (by omega), if_neg (by omega)]; simp
  · rw [decide_eq_false y0]
    by_cases x0 : X < 0
    · rw [decide_eq_true x0, if_neg (by omega), if_pos (by omega)]; simp
    · rw [decide_eq_false x0, if_pos (by omega), if_pos (by omega)]
      by_cases h1 : X < Y
      · rw [decide_eq_true h1, if_pos h1]; simp
      · rw [decide_eq_false h1, if_neg h1]
        by_cases h2 : Y < X
        · rw [if_pos h2]
          have : (X == Y) = false := by simp; omega
          rw [this]; simp
        · rw [if_neg h2]
          have e : X = Y := by omega
          rw [e]; simp
section
variable {a o n : Nat → Int} {k : Nat}
theorem n6_fin {S : St} {p : Path} {t : List (Bool × Bool)} {vals : List Value} {os : List (Option LO)} {f : Nat} {L : List Nat} {T : List Int} {r : Bool} (h : headAt [0, 9, 10, 11, 12] L s34D (Ly.run cyN f p S) = (true, t, true, (Try.f34, k34, none, 1), vals, os)) (ht : trusted t)
    (hP : ∀ o ∈ os, ∀ x, o = some x → plainO x) (hs : MWp Try.prog (mkSt Try.f34 k34 none 1 vals os) (NxE T r)) : MWp Try.prog S (NxE T r) := MWp.head cyN_ok _ _ _ _ h ht hP hs
theorem g34 : cyN.fn.get 34 = some Try.f34 := by kernel_rfl
theorem n6_ok (hk : k ≤ 4294967000) (ha : ∀ e, e < k → W16 (a e)) (hn : ∀ e, e < k → W16 (n e)) {i : Nat} (hi : i < k) (ho : inb (o i) = true) :
    MWp Try.prog (s34 a o n k i) (NxE (nxF k a o n i).1 (nxF k a o n i).2) := by
  obtain ⟨i1, i2, i3, i4⟩ := ix_tests hi
  have h01 : 0 ≤ o i ∧ o i ≤ 255 := by simpa [inb] using ho
  obtain ⟨m, hm⟩ := Int.eq_ofNat_of_zero_le h01.1
  obtain ⟨kv, kn, kl, ks, kr⟩ := kd_all (n := m) (by omega)
  have hr : rowT a o n k = true := by
    have : (fun e x => ndG a o n (0 + e) x) = ndG a o n := by funext e x; simp
    unfold rowT; rw [this, okN_nd _ _ _ hk]; simp
  have ex : xO o i = (m : Int) := by unfold xO; rw [i3, hm]
  have en : xN n i = n i := by unfold xN; rw [i3]
  have hA : 0 + (i : Int).toNat = i := i3
  have eF : nxF k a o n i = nxI k a o n i := by unfold nxF; rw [decide_eq_false (show ¬ ((i : Int) < 0) by omega), decide_eq_false (show ¬ ((k : Int) ≤ i) by omega)]; rfl
  have hai := ha i hi
  have hni := hn i hi
  have xA : a6 k a (wA a o i) = aB k a o i := by
    refine a6_at ha ?_
    unfold wA xB
    rw [hA, ex, t6W_in hai, IntKind.wrap_i64, IntKind.wrap_u16, IntKind.wrap_u16]
    unfold W16 at hai; omega
  have xNn : a6 k a (wN n i) = aN k a n i := by
    refine a6_at ha ?_
    unfold wN
    rw [hA, t6W_in hni, en]
    unfold W16 at hni; omega
  have xR' : a6 k a (wR o i) = aR k a o i := by
    refine a6_at ha ?_
    unfold wR xR
    rw [ex, t6W_in ⟨kr.1, by omega⟩, IntKind.wrap_u16]
  have lA := a6_lt k a (wA a o i)
  have lN := a6_lt k a (wN n i)
  have lR := a6_lt k a (wR o i)
  rw [xA] at lA
  rw [xNn] at lN
  rw [xR'] at lR
  have pre : ∀ l, trusted l → trusted (pt34 a o n k i l) := by
    intro l hl
    have e4 : (decide ((i : Int) < 0) == false) = true := by simp
    have e5 : decide ((k : Int) ≤ i) = false := by simpa using hi
    have e6 : nmB o i = true := by unfold nmB; rw [ex]; simp; omega
    have e7 : igB o i = true := by unfold igB; rw [ex, kn]; rfl
    simp only [pt34, trusted, hA, e4, e5, e6, e7, i2, i4, hl, and_self]
  have hin : inb (xO o i) = true := by unfold xO; rw [i3]; exact ho
  have c1 : amT o i = (kdE (kd m)).1 := by rw [← kv]; show amB (nameT (xO o i)) = _; rw [ex]; rfl
  have c2 : decide (0 ≤ condT (xO o i)) = (kdE (kd m)).2.1 := by rw [← kv, ex]; rfl
  have c3 : endsB (xO o i) = (kdE (kd m)).2.2.1 := by rw [← kv, ex]; rfl
  have c4 : clT o i = (kdE (kd m)).2.2.2.1 := by rw [← kv]; show strEq (nameT (xO o i)) _ = _; rw [ex]; rfl
  have c5 : rstB o i = (kdE (kd m)).2.2.2.2.1 := by rw [← kv]; show (bits .and .u8 (xO o i) 199 == 199) = _; rw [ex]; rfl
  have c5' : m99 o i = (kdE (kd m)).2.2.2.2.1 := c5
  have c6 : jumpsB (xO o i) = (kdE (kd m)).2.2.2.2.2.1 := by rw [← kv, ex]; rfl
  have c7 : rtn o i = (kdE (kd m)).2.2.2.2.2.2.1 := by rw [← kv]; show (bits .and .u8 (xO o i) 199 == 192) = _; rw [ex]; rfl
  have c8 : (xO o i == 205) = (kdE (kd m)).2.2.2.2.2.2.2.1 := by rw [← kv, ex]; rfl
  have c9 : (xO o i == 195) = (kdE (kd m)).2.2.2.2.2.2.2.2 := by rw [← kv, ex]; rfl
  have cl : 0 ≤ condT (m : Int) → lowB o i = rtn o i := by intro h; show (bits .and .u8 (xO o i) 7 == 0) = (bits .and .u8 (xO o i) 199 == 192); rw [ex]; exact kl h
  have c2' : decide (0 ≤ condT (m : Int)) = (kdE (kd m)).2.1 := by rw [← c2, ex]
  rw [eF]
  unfold nxI
  rw [c8, c5', c3, c9, c6]
  generalize kd m = q at c1 c2 c3 c4 c5 c5' c6 c7 c8 c9 c2' ⊢
  rcases q with _ | _ | _ | _ | _ | _ | q
  · -- nothing behind
    refine n6_fin (n6_a a o n k i) (pre _ (by simp only [trusted, c1, c2, c3, c4, c5, c6, hin, kdE, and_self, beq_self_eq_true, Bool.true_eq_false, Bool.false_eq_true, beq_iff_eq, beq_eq_false_iff_ne, ne_eq, not_false_eq_true, Bool.not_true, Bool.not_false])) (l6_P a o n k []) ?_
    exact lp0 true k 0 (by omega) hk
  · have hc : 0 ≤ condT (m : Int) := by simpa [kdE] using c2'
    have h7 : rtn o i = true := c7
    refine n6_fin (n6_t a o n k i) (pre _ (by simp only [trusted, c1, c2, c3, c4, c5, c6, hin, kdE, and_self, beq_self_eq_true, Bool.true_eq_false, Bool.false_eq_true, beq_iff_eq, beq_eq_false_iff_ne, ne_eq, not_false_eq_true, Bool.not_true, Bool.not_false])) (l6_P a o n k [[wA a o i]]) ?_
    have := lp1 hr (lowB o i) (wA a o i) k 0 (by omega) hk
    rw [T2_zero, xA, cl hc] at this
    rw [cl hc]
    show MWp _ _ (NxE (nxOne (aB k a o i) (rtn o i)).1 (nxOne (aB k a o i) (rtn o i)).2)
    rw [nxo_eq (rtn o i) lA]
    exact this
  · have hc : 0 ≤ condT (m : Int) := by simpa [kdE] using c2'
    refine n6_fin (n6_q a o n k i) (pre _ (by simp only [trusted, c1, c2, c3, c4, c5, c6, hin, kdE, and_self, beq_self_eq_true, Bool.true_eq_false, Bool.false_eq_true, beq_iff_eq, beq_eq_false_iff_ne, ne_eq, not_false_eq_true, Bool.not_true, Bool.not_false])) (l6_P a o n k [[wA a o i, wN n i]]) ?_
    have := lp2 hr (lowB o i) (wA a o i) (wN n i) k 0 (by omega) hk
    rw [T2_zero, xA, xNn, cl hc] at this
    rw [cl hc]
    show MWp _ _ (NxE (nxTwo (aN k a n i) (aB k a o i) (rtn o i)).1 (nxTwo (aN k a n i) (aB k a o i) (rtn o i)).2)
    rw [nxt_eq (rtn o i) lA lN]
    exact this
  · have h7 : rtn o i = false := c7
    refine n6_fin (n6_n a o n k i) (pre _ (by simp only [trusted, c1, c2, c3, c4, c5, c6, hin, kdE, and_self, beq_self_eq_true, Bool.true_eq_false, Bool.false_eq_true, beq_iff_eq, beq_eq_false_iff_ne, ne_eq, not_false_eq_true, Bool.not_true, Bool.not_false])) (l6_P a o n k [[wA a o i]]) ?_
    have := lp1 hr false (wA a o i) k 0 (by omega) hk
    rw [T2_zero, xA] at this
    show MWp _ _ (NxE (nxOne (aB k a o i) (rtn o i)).1 (nxOne (aB k a o i) (rtn o i)).2)
    rw [nxo_eq (rtn o i) lA, h7]
    exact this
  · have h7 : rtn o i = false := c7
    refine n6_fin (n6_j a o n k i) (pre _ (by simp only [trusted, c1, c2, c3, c4, c5, c6, hin, kdE, and_self, beq_self_eq_true, Bool.true_eq_false, Bool.false_eq_true, beq_iff_eq, beq_eq_false_iff_ne, ne_eq, not_false_eq_true, Bool.not_true, Bool.not_false])) (l6_P a o n k [[wN n i]]) ?_
    have := lp1 hr false (wN n i) k 0 (by omega) hk
    rw [T2_zero, xNn] at this
    show MWp _ _ (NxE (nxOne (aN k a n i) (rtn o i)).1 (nxOne (aN k a n i) (rtn o i)).2)
    rw [nxo_eq (rtn o i) lN, h7]
    exact this
  · have h7 : rtn o i = false := c7
    refine n6_fin (n6_c a o n k i) (pre _ (by simp only [trusted, c1, c2, c3, c4, c5, c6, hin, kdE, and_self, beq_self_eq_true, Bool.true_eq_false, Bool.false_eq_true, beq_iff_eq, beq_eq_false_iff_ne, ne_eq, not_false_eq_true, Bool.not_true, Bool.not_false])) (l6_P a o n k [[wN n i]]) ?_
    have := lp1 hr false (wN n i) k 0 (by omega) hk
    rw [T2_zero, xNn] at this
    show MWp _ _ (NxE (nxOne (aN k a n i) (rtn o i)).1 (nxOne (aN k a n i) (rtn o i)).2)
    rw [nxo_eq (rtn o i) lN, h7]
    exact this
  · have h7 : rtn o i = false := c7
    refine n6_fin (n6_s a o n k i) (pre _ (by simp only [trusted, c1, c2, c3, c4, c5, c6, hin, kdE, and_self, beq_self_eq_true, Bool.true_eq_false, Bool.false_eq_true, beq_iff_eq, beq_eq_false_iff_ne, ne_eq, not_false_eq_true, Bool.not_true, Bool.not_false])) (l6_P a o n k [[wR o i]]) ?_
    have := lp1 hr false (wR o i) k 0 (by omega) hk
    rw [T2_zero, xR'] at this
    show MWp _ _ (NxE (nxOne (aR k a o i) (rtn o i)).1 (nxOne (aR k a o i) (rtn o i)).2)
    rw [nxo_eq (rtn o i) lR, h7]
    exact this
end
def in16 (x : Int) : Bool := decide (0 ≤ x) && decide (x ≤ 65535)
def n6Mk (n : Nat) (G : Nat → Nat → Value) (r : List Value) : PairA := match r with
  | [.int .i64 i] => ⟨okN n G && (((List.range n).all fun e => inb (oOf G e)) && (((List.range n).all fun e => in16 (aOf G e) && in16 (nOf G e)) && (decide (0 ≤ i) && decide (i < n)))), (nxF n (aOf G) (oOf G) (nOf G) i).1.length, fun e => ((nxF n (aOf G) (oOf G) (nOf G) i).1[e]?).getD 0, .bool (nxF n (aOf G) (oOf G) (nOf G) i).2⟩
  | _ => ⟨false, 0, fun _ => 0, .bool false⟩
def n6C : Heap → List Value → ER := rowsPair 3 n6Mk 3
theorem rowI_get {l : List Int} {e : Nat} (h : e < l.length) : (l.map (Value.int .i64))[e]? = some (.int .i64 ((l[e]?).getD 0)) := by
  rw [List.getElem?_map, List.getElem?_eq_getElem h]; rfl
theorem n6_calls {n : Nat} {G : Nat → Nat → Value} {i : Int} (hg : (n6Mk n G [.int .i64 i]).ok = true) : LCalls Try.prog 34 [sls 0 n, .int .i64 i] (mkH [some (.arg 3 G n)]) (NxE (nxF n (aOf G) (oOf G) (nOf G) i).1 (nxF n (aOf G) (oOf G) (nOf G) i).2) := by
  unfold n6Mk at hg
  simp only [Bool.and_eq_true, List.all_eq_true, List.mem_range, decide_eq_true_eq] at hg
  obtain ⟨h0, h1, h2, h3⟩ := hg
  obtain ⟨k1, k2⟩ := okN_eq h0
  obtain ⟨m, rfl⟩ := Int.eq_ofNat_of_zero_le h3.1
  have b16 : ∀ {x : Int}, in16 x = true → W16 x := fun h => by simpa [in16, W16] using h
  exact LCalls.argEq k2 (LCalls_of cyN_ok g34 (by kernel_rfl) (n6_ok k1 (fun e he => b16 (h2 e he).1) (fun e he => b16 (h2 e he).2) (by omega) (h1 m (by omega))))
theorem n6C_good (H : Heap) (args : List Value) : HGood Try.prog 34 args H (n6C H args) := by
  refine rowsPair_good (fun n G r => ?_) (fun n G r hp hg h0 => ?_) (fun n G r hp hg h0 => ?_) (fun G r hp hg => ?_) H args
  · unfold n6Mk; split <;> simp [plain]
  · have hg' := hg
    unfold n6Mk at hg h0 ⊢
    split at hg
    · rename_i i
      refine ⟨2, (nxF n (aOf G) (oOf G) (nOf G) i).1.map (Value.int .i64), (n6_calls hg').mono ?_, by simp, fun e he => rowI_get he, ?_⟩
      · rintro u K (⟨q, _⟩ | ⟨_, q1, q2, q3⟩)
        · exact absurd (show (nxF n (aOf G) (oOf G) (nOf G) i).1.length = 0 by rw [q]; rfl) h0
        · exact ⟨q1, q2, q3⟩
      · simp only [List.all_map, List.all_eq_true]; intro x _; rfl
    · cases hg
  · have hg' := hg
    unfold n6Mk at hg h0 ⊢
    split at hg
    · rename_i i
      refine (n6_calls hg').mono ?_
      rintro u K (⟨_, q⟩ | ⟨q, _⟩)
      · exact q
      · exact absurd (List.eq_nil_of_length_eq_zero h0) q
    · cases hg
  · unfold n6Mk at hg ⊢
    split at hg
    · simp only [Bool.and_eq_true, decide_eq_true_eq] at hg
      omega
    · cases hg
end Go.Proofs.Ytdjmpilegommlaa
end
