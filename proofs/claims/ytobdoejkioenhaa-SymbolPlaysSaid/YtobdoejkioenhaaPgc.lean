/- Part 3 of the texts that the law needs, laid together. By program (pack.py). -/
import Derived.Test.YtobdoejkioenhaaPgb
import Derived.StillTail
import Derived.Deep.Quiet
import Derived.Below
import Derived.Scope
set_option linter.unusedVariables false
set_option linter.unusedSimpArgs false
noncomputable section
namespace Go.Ly
open Go.RowKit
section
variable {P : Program} {ops : Array Oper} {md : Region.Mode} {CW : World → Prop}
def headQ (P : Program) (md : Region.Mode) (ops : Array Oper) (CW : World → Prop) (n : Nat) (L : Array Bool → Act → Prop) : Nat → Array Bool → Act → Prop
  | 0, listed, a => L listed a
  | f + 1, listed, a => Region.ready md ops listed ≠ [] ∧ ∀ i ∈ Region.ready md ops listed, i < n ∧ qOp P ops CW i (headQ P md ops CW n L f (listed.setIfInBounds i true)) a
theorem any_of_headQ {n g : Nat} {L : Array Bool → Act → Prop} {Q' : Exit → Act → World → Prop} (hL : ∀ listed a w, CW w → L listed a → wpAny P md ops Q' g listed a w) :
    ∀ (f : Nat) (listed : Array Bool) (a : Act) (w : World), CW w → headQ P md ops CW n L f listed a → wpAny P md ops Q' (f + g) listed a w
  | 0, listed, a, w, hw, h => by rw [Nat.zero_add]; exact hL _ _ _ hw h
  | f + 1, listed, a, w, hw, h => by
    rw [show f + 1 + g = (f + g) + 1 by omega]
    exact ⟨fun h0 => absurd h0 h.1, fun i hi => wpOp_of_qOp hw (fun a' w' hw' h' => any_of_headQ hL f _ a' w' hw' h') (h.2 i hi).2⟩
theorem headQ_first {n i : Nat} {oi : Oper} {v : Value} {L : Array Bool → Act → Prop} (hi : ops[i]? = some oi) (hsel : ∀ (j : Nat) (o : Oper) cs b, ops[j]? = some o → o.op ≠ .select cs b)
    (hs : Region.sinkB md ops n = true) (hc : Region.chainB md ops n = true) (hn : n < ops.size) (hin : i < n)
    (hdone : ∀ listed a, L listed a → ∀ j ∈ Region.ready md ops listed, n ≤ j) (f : Nat) :
    ∀ (listed : Array Bool) (a : Act), HeadInv md ops n listed →
      (∀ j oj, ops[j]? = some oj → j ≠ i → listed.getD j true = false → (∀ e ∈ oj.after, Region.binds md e = true → e.on ≠ i) → oi.apart ops oj = true) →
      i ∈ Region.ready md ops listed → YieldsIn P ops CW oi v a →
      headQ P md ops CW n L f (listed.setIfInBounds i true) (a.put oi.dst v) → headQ P md ops CW n L (f + 1) listed a := by
  induction f with
  | zero =>
    intro listed a inv _ hr hy H
    have hun := (mem_ready.1 hr).1
    refine ⟨fun h => (by rw [h] at hr; cases hr), fun j hj => ?_⟩
    have hjn : j < n := Nat.lt_of_not_le fun h => absurd hj (tail_waits hs hc hn inv _ i rfl hin hun j h)
    refine ⟨hjn, ?_⟩
    by_cases hji : j = i
    · subst hji; exact hy.qOp hi H
    · have := hdone _ _ H j (ready_mono hj hji)
      omega
  | succ f ih =>
    intro listed a inv hfree hr hy H
    have hun := (mem_ready.1 hr).1
    refine ⟨fun h => (by rw [h] at hr; cases hr), fun j hj => ?_⟩
    have hjn : j < n := Nat.lt_of_not_le fun h => absurd hj (tail_waits hs hc hn inv _ i rfl hin hun j h)
    refine ⟨hjn, ?_⟩
    by_cases hji : j = i
    · subst hji; exact hy.qOp hi H
    · have h1 := (H.2 j (ready_mono hj hji)).2
      obtain ⟨hjun, oj, hoj, hall⟩ := mem_ready.1 hj
      have hnot : ∀ e ∈ oj.after, Region.binds md e = true → e.on ≠ i := fun e he hb heq => by
        have h1 := hall e he hb
        rw [heq, getD_both hun] at h1
        cases h1
      have h2 := qOp_put hoj (hfree j oj hoj hji hjun hnot) (fun cs b => hsel i oi cs b hi) (fun cs b => hsel j oj cs b hoj) hy h1
      refine qOp_mono (fun a' h3 => ih (listed.setIfInBounds j true) a' (inv.set hj hjn) (fun k ok hk hki hun' hno => ?_) (ready_mono hr (Ne.symm hji)) h3.1 ?_) h2
      · refine hfree k ok hk hki ?_ hno
        by_cases hjk : j = k
        · subst hjk; exact hjun
        · rw [getD_set_ne true hjk] at hun'; exact hun'
      · rw [Array.setIfInBounds_comm _ _ hji]
        exact h3.2
theorem headQ_lex {n g : Nat} {Lq : Act → Prop} (hsel : Region.noSelect ops = true) (hs : Region.sinkB md ops n = true) (hc : Region.chainB md ops n = true) (hn : n < ops.size) :
    ∀ (l : List Oper) (k : Nat) (listed : Array Bool) (a : Act), (∀ j, j < l.length → l[j]? = ops[k + j]?) → k + l.length = n → HeadInv md ops n listed →
    Region.lexHead md ops g l.length k listed = true → wpQuiet P ops CW Lq l a →
    headQ P md ops CW n (fun listed' a' => Region.seqB md ops g n listed' = true ∧ Lq a') l.length listed a
  | [], k, listed, a, _, hk, _, hB, h => by
    have : k = n := by simpa using hk
    subst this
    exact ⟨by simpa [Region.lexHead] using hB, h⟩
  | o :: l, k, listed, a, hl, hk, inv, hB, h => by
    have h0 : ops[k]? = some o := by simpa using (hl 0 (by simp)).symm
    simp only [List.length_cons, Region.lexHead, Bool.and_eq_true] at hB
    obtain ⟨⟨hr, hf⟩, hB'⟩ := hB
    simp only [List.length_cons] at hk
    have hr' : k ∈ Region.ready md ops listed := by simpa using hr
    have hst : qOp P ops CW k (wpQuiet P ops CW Lq l) a := by unfold qOp; simp only [h0]; exact h
    obtain ⟨v, hy, hK⟩ := yieldsIn_of_qOp h0 hst
    exact headQ_first h0 (Region.noSelect_spec hsel) hs hc hn (by omega) (fun listed' a' hL => seqB_ready hL.1) l.length listed a inv (Region.free_spec h0 hf) hr' hy
      (headQ_lex hsel hs hc hn l (k + 1) _ _ (fun j hj => by have := hl (j + 1) (by simp; omega); simpa [Nat.add_assoc, Nat.add_comm 1 j] using this) (by omega) (inv.set hr' (by omega)) hB' hK)
theorem region_quiet_tail {id : Nat} {Q : Exit → Act → World → Prop} {a : Act} {w : World} (n : Nat) (hm : P.follows .mixedOrders = true) (hB : Region.lexTailB .any ops n = true) (hC : CW w.drew)
    (h : wpQuiet P ops CW (fun a' => ∀ w', CW w' → wpList P ops Q (ops.toList.drop n) a' w') (ops.toList.take n) a) : (Code.region id ops true).wp P Q a w := by
  simp only [Region.lexTailB, Bool.and_eq_true, decide_eq_true_eq] at hB
  obtain ⟨⟨⟨⟨hsel, hn⟩, hs⟩, hc⟩, hlex⟩ := hB
  have hn' : n < ops.toList.length := by simpa using hn
  have htl : (ops.toList.take n).length = n := by simp; omega
  have hdl : (ops.toList.drop n).length = ops.size - n := by simp
  have inv0 : HeadInv .any ops n (Array.replicate ops.size false) :=
    ⟨by simp, fun j oj _ hl => (by rw [getD_replicate_false] at hl; cases hl), fun t _ ht => getD_in (by simpa using ht) (getD_replicate_false _ _)⟩
  have H := headQ_lex (md := .any) (g := ops.size - n) hsel hs hc hn (ops.toList.take n) 0 _ a (fun j hj => by
    have hj' : j < n := by rw [htl] at hj; exact hj
    rw [List.getElem?_take_of_lt hj']; simp) (by simpa using htl) inv0 (by rw [htl]; exact hlex) h
  refine wp_region_any hm ?_
  have := any_of_headQ (Q' := Q) (g := ops.size - n) (fun listed a' w' hw' hL => by
    have := wpAny_of_seq (md := .any) (Q' := Q) (ops.toList.drop n) n listed a' w' (fun j => by simp [List.getElem?_drop]) (by rw [hdl]; exact hL.1) (hL.2 w' hw')
    rwa [hdl] at this) _ _ _ w.drew hC H
  rw [htl, show n + (ops.size - n) = ops.size by omega] at this
  exact this
end
end Go.Ly
namespace Go.Ly
open Go.RowKit
mutual
/-- a value's blocks under other numbers -/
def renV (σ : Nat → Nat) : Value → Value
  | .pointer (some a) => .pointer (some ⟨σ a.block, a.off, a.spot⟩)
  | .slice (some a) n c => .slice (some ⟨σ a.block, a.off, a.spot⟩) n c
  | .map (some r) => .map (some (σ r))
  | .func fn ⟨xs⟩ ⟨ys⟩ => .func fn ⟨renL σ xs⟩ ⟨renL σ ys⟩
  | .iface t x => .iface t (renV σ x)
  | .agg ⟨xs⟩ => .agg ⟨renL σ xs⟩
  | .tuple ⟨xs⟩ => .tuple ⟨renL σ xs⟩
  | .float k r => .float k (σ r)
  | v => v
def renL (σ : Nat → Nat) : List Value → List Value
  | [] => []
  | v :: r => renV σ v :: renL σ r
end
def Ren.comp (ρ : Ren) (σ : Nat → Nat) : Ren := ⟨fun i => ρ (σ i), fun i => ρ.cap (σ i), fun i => ρ.ro (σ i), fun i => ρ.off (σ i), fun i => ρ.wd (σ i), ρ.tok⟩
mutual
theorem VR_ren {ρ : Ren} {σ : Nat → Nat} : ∀ (v v' : Value), VR ρ (renV σ v) v' ↔ VR (ρ.comp σ) v v'
  | .bool _, _ => by simp [renV, VR]
  | .int _ _, _ => by simp [renV, VR]
  | .string _, _ => by simp [renV, VR]
  | .pointer none, _ => by simp [renV, VR]
  | .pointer (some a), _ => by simp only [renV, VR]; rfl
  | .slice none _ _, _ => by simp [renV, VR]
  | .slice (some a) n c, _ => by simp only [renV, VR]; rfl
  | .map none, _ => by simp [renV, VR]
  | .map (some r), _ => by simp only [renV, VR]; rfl
  | .func fn ⟨xs⟩ ⟨ys⟩, v' => by
    simp only [renV, VR]
    constructor
    · rintro ⟨xs', ys', h1, h2, h3⟩; exact ⟨xs', ys', (VRL_ren xs xs').1 h1, (VRL_ren ys ys').1 h2, h3⟩
    · rintro ⟨xs', ys', h1, h2, h3⟩; exact ⟨xs', ys', (VRL_ren xs xs').2 h1, (VRL_ren ys ys').2 h2, h3⟩
  | .nilFunc, _ => by simp [renV, VR]
  | .iface t x, v' => by
    simp only [renV, VR]
    constructor
    · rintro ⟨x', h1, h2⟩; exact ⟨x', (VR_ren x x').1 h1, h2⟩
    · rintro ⟨x', h1, h2⟩; exact ⟨x', (VR_ren x x').2 h1, h2⟩
  | .nilIface, _ => by simp [renV, VR]
  | .agg ⟨xs⟩, v' => by
    simp only [renV, VR]
    constructor
    · rintro ⟨x', h1, h2⟩; exact ⟨x', (VRL_ren xs x').1 h1, h2⟩
    · rintro ⟨x', h1, h2⟩; exact ⟨x', (VRL_ren xs x').2 h1, h2⟩
  | .tuple ⟨xs⟩, v' => by
    simp only [renV, VR]
    constructor
    · rintro ⟨x', h1, h2⟩; exact ⟨x', (VRL_ren xs x').1 h1, h2⟩
    · rintro ⟨x', h1, h2⟩; exact ⟨x', (VRL_ren xs x').2 h1, h2⟩
  | .float _ _, _ => by simp only [renV, VR]; exact Iff.rfl
  | .complex _ _ _, _ => by simp [renV, VR]
  | .chan none, _ => by simp [renV, VR]
  | .chan (some _), _ => by simp only [renV, VR]; rfl
theorem VRL_ren {ρ : Ren} {σ : Nat → Nat} : ∀ (l l' : List Value), VRL ρ (renL σ l) l' ↔ VRL (ρ.comp σ) l l'
  | [], _ => by simp [renL, VRL]
  | v :: r, l' => by
    simp only [renL, VRL]
    constructor
    · rintro ⟨v', r', h1, h2, h3⟩; exact ⟨v', r', (VR_ren v v').1 h1, (VRL_ren r r').1 h2, h3⟩
    · rintro ⟨v', r', h1, h2, h3⟩; exact ⟨v', r', (VR_ren v v').2 h1, (VRL_ren r r').2 h2, h3⟩
end
def renO (σ : Nat → Nat) : LO → LO
  | .cells c t => .cells (renL σ c) t
  | .row c t z => .row (renL σ c) t z
  | .fn k g n t => .fn k g n t
  | .arg k g n => .arg k g n
  | .bts g n t => .bts g n t
  | .mp g p n => .mp g p n
theorem own_ren (σ : Nat → Nat) (o : LO) : (renO σ o).own = o.own := by cases o <;> rfl
theorem VR_cst {ρ ρ' : Ren} {v v' : Value} (h : cst v = true) (hv : VR ρ v v') : VR ρ' v v' := by
  unfold cst at h
  split at h <;> first | (simp only [VR] at hv ⊢; exact hv) | cases h
theorem GR_ren {ρ : Ren} {σ : Nat → Nat} {k n off : Nat} {g : Nat → Nat → Value} {c : List Value} : GR ρ k g n off c ↔ GR (ρ.comp σ) k g n off c := by
  constructor
  · intro h
    exact ⟨fun e j he hj => by obtain ⟨v', h1, h2⟩ := h.val e j he hj; exact ⟨v', h1, VR_cst (h.one e j he hj) h2⟩, h.one⟩
  · intro h
    exact ⟨fun e j he hj => by obtain ⟨v', h1, h2⟩ := h.val e j he hj; exact ⟨v', h1, VR_cst (h.one e j he hj) h2⟩, h.one⟩
theorem OR_ren {ρ : Ren} {σ : Nat → Nat} {i : Nat} : ∀ (o : LO) (o' : Obj), OR ρ (σ i) (renO σ o) o' ↔ OR (ρ.comp σ) i o o'
  | .cells c t, o' => by
    simp only [renO, OR]
    constructor
    · rintro ⟨h0, c', h1, h2⟩; exact ⟨h0, c', (VRL_ren _ _).1 h1, h2⟩
    · rintro ⟨h0, c', h1, h2⟩; exact ⟨h0, c', (VRL_ren _ _).2 h1, h2⟩
  | .row c t z, o' => by
    simp only [renO, OR]
    constructor
    · rintro ⟨h0, c', d', h1, h2⟩; exact ⟨h0, c', d', (VRL_ren _ _).1 h1, h2⟩
    · rintro ⟨h0, c', d', h1, h2⟩; exact ⟨h0, c', d', (VRL_ren _ _).2 h1, h2⟩
  | .fn k g n t, o' => by
    simp only [renO, OR]
    constructor
    · rintro ⟨h0, hk, c', d', h1, h2, h3, h4⟩; exact ⟨h0, hk, c', d', h1, h2, h3, GR_ren.1 h4⟩
    · rintro ⟨h0, hk, c', d', h1, h2, h3, h4⟩; exact ⟨h0, hk, c', d', h1, h2, h3, GR_ren.2 h4⟩
  | .arg k g n, o' => by simp only [renO, OR]
  | .bts g n t, o' => by
    simp only [renO, OR]
    constructor
    · rintro ⟨h0, hk, c', d', h1, h2, h4⟩; exact ⟨h0, hk, c', d', h1, h2, GR_ren.1 h4⟩
    · rintro ⟨h0, hk, c', d', h1, h2, h4⟩; exact ⟨h0, hk, c', d', h1, h2, GR_ren.2 h4⟩
  | .mp g p n, o' => by simp only [renO, OR]; exact Iff.rfl
theorem AR_ren {ρ : Ren} {σ : Nat → Nat} {i k n : Nat} {g : Nat → Nat → Value} {w : World} : AR ρ (σ i) k g n w ↔ AR (ρ.comp σ) i k g n w := by
  constructor
  · intro h
    refine ⟨h.wd, fun e j he hj => ?_⟩
    obtain ⟨h1, b, v', hb, hc, hv⟩ := h.cell e j he hj
    exact ⟨h1, b, v', hb, hc, VR_cst h1 hv⟩
  · intro h
    refine ⟨h.wd, fun e j he hj => ?_⟩
    obtain ⟨h1, b, v', hb, hc, hv⟩ := h.cell e j he hj
    exact ⟨h1, b, v', hb, hc, VR_cst h1 hv⟩
def ext (σ : Nat → Nat) (n N : Nat) : Nat → Nat := fun i => bif Nat.blt i n then σ i else N + (i - n)
theorem ext_lt {σ : Nat → Nat} {n N i : Nat} (h : i < n) : ext σ n N i = σ i := by
  unfold ext; rw [show Nat.blt i n = true by simpa [Nat.blt_eq] using h]; rfl
theorem ext_ge {σ : Nat → Nat} {n N i : Nat} (h : n ≤ i) : ext σ n N i = N + (i - n) := by
  unfold ext
  have : Nat.blt i n = false := by
    cases hb : Nat.blt i n with
    | false => rfl
    | true => rw [Nat.blt_eq] at hb; omega
  rw [this]; rfl
mutual
def blks (p : Nat → Bool) : Value → Bool
  | .pointer (some a) => p a.block
  | .slice (some a) _ _ => p a.block
  | .map (some r) => p r
  | .func _ ⟨xs⟩ ⟨ys⟩ => blksL p xs && blksL p ys
  | .iface _ x => blks p x
  | .agg ⟨xs⟩ => blksL p xs
  | .tuple ⟨xs⟩ => blksL p xs
  | .float _ r => p r
  | _ => true
def blksL (p : Nat → Bool) : List Value → Bool
  | [] => true
  | v :: r => blks p v && blksL p r
end
def noBlk (v : Value) : Prop := blks (fun _ => false) v = true
mutual
theorem VR_noBlk {ρ ρ' : Ren} (ht : ρ'.tok = ρ.tok) : ∀ (v v' : Value), blks (fun _ => false) v = true → VR ρ v v' → VR ρ' v v'
  | .bool _, _, _, h => h
  | .int _ _, _, _, h => h
  | .string _, _, _, h => h
  | .pointer none, _, _, h => h
  | .pointer (some a), _, hb, h => by simp [blks] at hb
  | .slice none _ _, _, _, h => h
  | .slice (some a) n c, _, hb, h => by simp [blks] at hb
  | .map none, _, _, h => h
  | .map (some r), _, hb, h => by simp [blks] at hb
  | .func fn ⟨xs⟩ ⟨ys⟩, _, hb, h => by
    simp only [blks, Bool.and_eq_true] at hb
    simp only [VR] at h ⊢
    obtain ⟨xs', ys', h1, h2, rfl⟩ := h
    exact ⟨xs', ys', VRL_noBlk ht xs xs' hb.1 h1, VRL_noBlk ht ys ys' hb.2 h2, rfl⟩
  | .nilFunc, _, _, h => h
  | .iface t x, _, hb, h => by
    simp only [blks] at hb
    simp only [VR] at h ⊢
    obtain ⟨x', h1, rfl⟩ := h
    exact ⟨x', VR_noBlk ht x x' hb h1, rfl⟩
  | .nilIface, _, _, h => h
  | .agg ⟨xs⟩, _, hb, h => by
    simp only [blks] at hb
    simp only [VR] at h ⊢
    obtain ⟨x', h1, rfl⟩ := h
    exact ⟨x', VRL_noBlk ht xs x' hb h1, rfl⟩
  | .tuple ⟨xs⟩, _, hb, h => by
    simp only [blks] at hb
    simp only [VR] at h ⊢
    obtain ⟨x', h1, rfl⟩ := h
    exact ⟨x', VRL_noBlk ht xs x' hb h1, rfl⟩
  | .float _ _, _, hb, h => by simp [blks] at hb
  | .complex _ _ _, _, _, h => h
  | .chan none, _, _, h => h
  | .chan (some _), _, _, h => by simp only [VR] at h ⊢; rw [h, ht]
theorem VRL_noBlk {ρ ρ' : Ren} (ht : ρ'.tok = ρ.tok) : ∀ (l l' : List Value), blksL (fun _ => false) l = true → VRL ρ l l' → VRL ρ' l l'
  | [], _, _, h => h
  | v :: r, _, hb, h => by
    simp only [blksL, Bool.and_eq_true] at hb
    simp only [VRL] at h ⊢
    obtain ⟨v', r', h1, h2, rfl⟩ := h
    exact ⟨v', r', VR_noBlk ht v v' hb.1 h1, VRL_noBlk ht r r' hb.2 h2, rfl⟩
end
def memB : List Nat → Nat → Bool
  | [], _ => false
  | x :: r, b => bif Nat.beq x b then true else memB r b
def posOf : List Nat → Nat → Nat
  | [], _ => 0
  | x :: r, b => bif Nat.beq x b then 0 else posOf r b + 1
theorem posOf_get : ∀ (L : List Nat) (b : Nat), memB L b = true → L[posOf L b]? = some b
  | [], b, h => by simp [memB] at h
  | x :: r, b, h => by
    simp only [memB, posOf] at h ⊢
    cases hb : Nat.beq x b with
    | true => simp [Nat.eq_of_beq_eq_true hb]
    | false => rw [hb] at h; simp only [cond_false] at h ⊢; simp [posOf_get r b h]
def Ren.via (ρ : Ren) (L : List Nat) : Ren := ⟨fun i => (L[i]?).bind ρ.b, fun i => ρ.cap (L.getD i 0), fun i => ρ.ro (L.getD i 0), fun i => ρ.off (L.getD i 0), fun i => ρ.wd (L.getD i 0), ρ.tok⟩
theorem via_get (ρ : Ren) {L : List Nat} {i b : Nat} (h : L[i]? = some b) : (ρ.via L) i = ρ b ∧ (ρ.via L).cap i = ρ.cap b ∧ (ρ.via L).ro i = ρ.ro b ∧ (ρ.via L).off i = ρ.off b ∧ (ρ.via L).wd i = ρ.wd b := by
  simp [Ren.via, h]
theorem via_at (ρ : Ren) {L : List Nat} {a : Addr} (h : memB L a.block = true) : (ρ.via L).at ⟨posOf L a.block, a.off, a.spot⟩ = ρ.at a := by
  have := via_get ρ (posOf_get L a.block h)
  unfold Ren.at
  simp only [this.2.2.2.1, this.2.2.2.2]
mutual
theorem VR_via {ρ : Ren} {L : List Nat} : ∀ (v v' : Value), blks (memB L) v = true → VR ρ v v' → VR (ρ.via L) (renV (posOf L) v) v'
  | .bool _, _, _, h => h
  | .int _ _, _, _, h => h
  | .string _, _, _, h => h
  | .pointer none, _, _, h => h
  | .pointer (some a), _, hb, h => by
    simp only [blks] at hb
    simp only [VR] at h
    simp only [renV, VR]
    obtain ⟨b, h1, rfl⟩ := h
    exact ⟨b, by rw [(via_get ρ (posOf_get L _ hb)).1]; exact h1, by rw [via_at ρ hb]⟩
  | .slice none _ _, _, _, h => h
  | .slice (some a) n c, _, hb, h => by
    simp only [blks] at hb
    simp only [VR] at h
    simp only [renV, VR]
    obtain ⟨a', c', h1, h2, h3, h4⟩ := h
    refine ⟨a', c', h1, h2, h3, fun hn => ?_⟩
    obtain ⟨b, h5, h6, h7⟩ := h4 hn
    exact ⟨b, by rw [(via_get ρ (posOf_get L _ hb)).1]; exact h5, by rw [via_at ρ hb]; exact h6, by rw [via_at ρ hb, (via_get ρ (posOf_get L _ hb)).2.1]; exact h7⟩
  | .map none, _, _, h => h
  | .map (some r), _, hb, h => by
    simp only [blks] at hb
    simp only [VR] at h
    simp only [renV, VR]
    obtain ⟨b, h1, rfl⟩ := h
    exact ⟨b, by rw [(via_get ρ (posOf_get L _ hb)).1]; exact h1, rfl⟩
  | .func fn ⟨xs⟩ ⟨ys⟩, _, hb, h => by
    simp only [blks, Bool.and_eq_true] at hb
    simp only [VR] at h
    simp only [renV, VR]
    obtain ⟨xs', ys', h1, h2, rfl⟩ := h
    exact ⟨xs', ys', VRL_via xs xs' hb.1 h1, VRL_via ys ys' hb.2 h2, rfl⟩
  | .nilFunc, _, _, h => h
  | .iface t x, _, hb, h => by
    simp only [blks] at hb
    simp only [VR] at h
    simp only [renV, VR]
    obtain ⟨x', h1, rfl⟩ := h
    exact ⟨x', VR_via x x' hb h1, rfl⟩
  | .nilIface, _, _, h => h
  | .agg ⟨xs⟩, _, hb, h => by
    simp only [blks] at hb
    simp only [VR] at h
    simp only [renV, VR]
    obtain ⟨x', h1, rfl⟩ := h
    exact ⟨x', VRL_via xs x' hb h1, rfl⟩
  | .tuple ⟨xs⟩, _, hb, h => by
    simp only [blks] at hb
    simp only [VR] at h
    simp only [renV, VR]
    obtain ⟨x', h1, rfl⟩ := h
    exact ⟨x', VRL_via xs x' hb h1, rfl⟩
  | .float _ r, _, hb, h => by
    simp only [blks] at hb
    simp only [VR] at h
    simp only [renV, VR]
    obtain ⟨b, c', e1, rfl, e2⟩ := h
    have ha := via_at ρ (L := L) (a := ⟨r, 0, none⟩) hb
    obtain ⟨v1, v2, _⟩ := via_get ρ (posOf_get L r hb)
    exact ⟨b, c', v1.trans e1, by rw [ha], by rw [ha, v2]; exact e2⟩
  | .complex _ _ _, _, _, h => h
  | .chan none, _, _, h => by simp [renV, VR]
  | .chan (some _), _, _, h => by simp only [renV, VR] at h ⊢; exact h
theorem VRL_via {ρ : Ren} {L : List Nat} : ∀ (l l' : List Value), blksL (memB L) l = true → VRL ρ l l' → VRL (ρ.via L) (renL (posOf L) l) l'
  | [], _, _, h => h
  | v :: r, _, hb, h => by
    simp only [blksL, Bool.and_eq_true] at hb
    simp only [VRL] at h
    simp only [renL, VRL]
    obtain ⟨v', r', h1, h2, rfl⟩ := h
    exact ⟨v', r', VR_via v v' hb.1 h1, VRL_via r r' hb.2 h2, rfl⟩
end
def colO (L : List Nat) : LO → LO
  | .cells c t => .cells (renL (posOf L) c) t
  | .row c t z => .row (renL (posOf L) c) t z
  | o => o
def colOB (L : List Nat) : LO → Bool
  | .cells c _ => blksL (memB L) c
  | .row c _ _ => blksL (memB L) c
  | _ => true
def plainO : LO → Prop
  | .fn _ g _ _ => ∀ e j, noBlk (g e j)
  | .arg _ g _ => ∀ e j, noBlk (g e j)
  | .bts g _ _ => ∀ e j, noBlk (g e j)
  | _ => True
theorem colO_OR {ρ : Ren} {L : List Nat} {i b : Nat} (h : L[i]? = some b) : ∀ (o : LO) (o' : Obj), colOB L o = true → plainO o → OR ρ b o o' → OR (ρ.via L) i (colO L o) o'
  | .cells c t, o', hb, _, hor => by
    obtain ⟨_, hcap, _, hoff, hwd⟩ := via_get ρ h
    obtain ⟨h0, c', h1, h2⟩ := hor
    exact ⟨hoff.trans h0, c', VRL_via c c' hb h1, h2⟩
  | .row c t z, o', hb, _, hor => by
    obtain ⟨_, hcap, _, hoff, hwd⟩ := via_get ρ h
    obtain ⟨h0, c', d', h1, h2, h3⟩ := hor
    exact ⟨hoff.trans h0, c', d', VRL_via c c' hb h1, h2, by rw [hcap]; exact h3⟩
  | .fn k g n t, o', _, hp, hor => by
    obtain ⟨_, hcap, _, hoff, hwd⟩ := via_get ρ h
    obtain ⟨h0, hk, c', d', h1, h2, h3, h4⟩ := hor
    exact ⟨hoff.trans h0, hwd.trans hk, c', d', h1, h2, by rw [hcap]; exact h3, ⟨fun e j he hj => by obtain ⟨v', g1, g2⟩ := h4.val e j he hj; exact ⟨v', g1, VR_noBlk (ρ := ρ) (ρ' := ρ.via L) rfl _ _ (hp e j) g2⟩, h4.one⟩⟩
  | .arg k g n, o', _, hp, hor => hor.elim
  | .bts g n t, o', _, hp, hor => by
    obtain ⟨_, hcap, _, hoff, hwd⟩ := via_get ρ h
    obtain ⟨h0, hk, c', d', h1, h2, h4⟩ := hor
    exact ⟨hoff.trans h0, hwd.trans hk, c', d', h1, h2, ⟨fun e j he hj => by obtain ⟨v', g1, g2⟩ := h4.val e j he hj; exact ⟨v', g1, VR_noBlk (ρ := ρ) (ρ' := ρ.via L) rfl _ _ (hp e j) g2⟩, h4.one⟩⟩
  | .mp g p n, o', _, hp, hor => by
    obtain ⟨_, hcap, _, hoff, hwd⟩ := via_get ρ h
    obtain ⟨h0, hk, h1⟩ := hor
    exact ⟨hoff.trans h0, hwd.trans hk, h1⟩
def mkM : List (Option LO) → Nat → Tr LO → Tr LO
  | [], _, m => m
  | o :: r, i, m => mkM r (i + 1) (m.set i o)
def mkH (os : List (Option LO)) : Heap := { m := mkM os 0 .nil, next := os.length }
theorem mkM_get : ∀ (os : List (Option LO)) (i : Nat) (m : Tr LO), i + os.length < big → ∀ j, (mkM os i m).get j = if i ≤ j ∧ j < i + os.length then (os[j - i]?).getD none else m.get j
  | [], i, m, h, j => by simp only [mkM, List.length_nil]; rw [if_neg (by omega)]
  | o :: r, i, m, h, j => by
    simp only [List.length_cons] at h ⊢
    rw [mkM, mkM_get r (i + 1) _ (by omega), Tr.get_set _ _ _ (by omega)]
    by_cases h1 : j = i
    · subst h1
      rw [if_neg (by omega), if_pos rfl, if_pos (by omega)]; simp
    · by_cases h2 : i + 1 ≤ j ∧ j < i + 1 + r.length
      · rw [if_pos h2, if_pos (by omega)]
        rw [show j - i = (j - (i + 1)) + 1 by omega]; simp
      · rw [if_neg h2, if_neg h1, if_neg (by omega)]
theorem mkH_get (os : List (Option LO)) (h : os.length < big) (j : Nat) : (mkH os).get j = (os[j]?).getD none := by
  have := mkM_get os 0 .nil (by omega) j
  simp only [Nat.zero_le, true_and, Nat.zero_add, Nat.sub_zero] at this
  show (mkM os 0 .nil).get j = _
  rw [this]
  by_cases hj : j < os.length
  · rw [if_pos hj]
  · rw [if_neg hj, Tr.get_nil, List.getElem?_eq_none (by omega)]; rfl
def nodupB : List Nat → Bool
  | [] => true
  | x :: r => !(memB r x) && nodupB r
theorem memB_iff : ∀ (L : List Nat) (b : Nat), memB L b = true ↔ b ∈ L
  | [], b => by simp [memB]
  | x :: r, b => by
    simp only [memB, List.mem_cons]
    cases hb : Nat.beq x b with
    | true => simp [Nat.eq_of_beq_eq_true hb]
    | false =>
      have := Nat.ne_of_beq_eq_false hb
      simp only [cond_false]; rw [memB_iff r b]
      constructor
      · exact .inr
      · rintro (h | h)
        · exact absurd h.symm this
        · exact h
theorem nodupB_iff : ∀ (L : List Nat), nodupB L = true → L.Nodup
  | [], _ => List.nodup_nil
  | x :: r, h => by
    simp only [nodupB, Bool.and_eq_true, Bool.not_eq_true'] at h
    refine List.nodup_cons.2 ⟨fun hm => ?_, nodupB_iff r h.2⟩
    rw [(memB_iff r x).2 hm] at h; cases h.1
def sg (s : List Nat) (i : Nat) : Nat := s.getD i 0
def tau (s : List Nat) (B : Nat) : Nat → Nat := ext (sg s) s.length B
end Go.Ly
namespace Go.Ly
open Go.RowKit
theorem cst_noBlk {v : Value} (h : cst v = true) : noBlk v := by
  unfold cst at h
  split at h
  all_goals first | (simp [noBlk, blks]; done) | (simp at h; done)
structure RepF (ρ : Ren) (G : Nat → Option LO) (w : World) : Prop where
  dom : ∀ i b, ρ i = some b → b < w.heap.size
  inj : ∀ i j b o, G i = some o → o.own = true → (G j).isSome → ρ i = some b → ρ j = some b → i = j
  obj : ∀ i o, G i = some o → o.own = true → ρ.ro i = false ∧ ∃ b o', ρ i = some b ∧ w.heap[b]? = some o' ∧ OR ρ i o o'
  arg : ∀ i k g n, G i = some (.arg k g n) → ρ.ro i = true ∧ AR ρ i k g n w
  fix : FixR ρ w
section
variable {ρ : Ren} {G : Nat → Option LO} {w : World}
theorem Rep.ro0 {H : Heap} (hr : Rep ρ H w) (hl : H.lock = 0) {i : Nat} {o : LO} (h : H.get i = some o) (ho : o.own = true) : ρ.ro i = false := (hr.obj i o h ho).1 (by rw [hl]; exact Nat.zero_le _)
theorem Rep.toF {H : Heap} (hl : H.lock = 0) (hr : Rep ρ H w) : RepF ρ H.get w := ⟨fun i b h => (hr.dom i b h).2, hr.inj, fun i o h ho => ⟨hr.ro0 hl h ho, (hr.obj i o h ho).2⟩, hr.arg, hr.fix⟩
theorem RepF.below {w' : World} (hr : RepF ρ G w) (hb : Below w.heap.size w w') : RepF ρ G w' :=
  ⟨fun i b h => Nat.lt_of_lt_of_le (hr.dom i b h) hb.size, hr.inj, fun i o h ho => by
    obtain ⟨h1, b, o', h2, h3, h4⟩ := hr.obj i o h ho
    exact ⟨h1, b, o', h2, by rw [hb.block b (hr.dom i b h2)]; exact h3, h4⟩, fun i k g n h => by
    obtain ⟨h1, h2⟩ := hr.arg i k g n h
    exact ⟨h1, h2.world fun b e => hb.block b (hr.dom i b e)⟩,
   ⟨fun b o e => by rw [hb.block b (hr.fix.lt e)]; exact hr.fix.held b o e, hr.fix.ro⟩⟩
theorem colO_OR' {L : List Nat} {i b : Nat} (h : L[i]? = some b) : ∀ (o : LO) (o' : Obj), colOB L o = true → OR ρ b o o' → OR (ρ.via L) i (colO L o) o'
  | .cells c t, o', hb, hor => colO_OR h (.cells c t) o' hb trivial hor
  | .row c t z, o', hb, hor => colO_OR h (.row c t z) o' hb trivial hor
  | .fn k g n t, o', _, hor => by
    obtain ⟨_, hcap, _, hoff, hwd⟩ := via_get ρ h
    obtain ⟨h0, hk, c', d', h1, h2, h3, h4⟩ := hor
    exact ⟨hoff.trans h0, hwd.trans hk, c', d', h1, h2, by rw [hcap]; exact h3, ⟨fun e j he hj => by obtain ⟨v', g1, g2⟩ := h4.val e j he hj; exact ⟨v', g1, VR_noBlk (ρ := ρ) (ρ' := ρ.via L) rfl _ _ (cst_noBlk (h4.one e j he hj)) g2⟩, h4.one⟩⟩
  | .arg k g n, o', _, hor => hor.elim
  | .bts g n t, o', _, hor => by
    obtain ⟨_, hcap, _, hoff, hwd⟩ := via_get ρ h
    obtain ⟨h0, hk, c', d', h1, h2, h4⟩ := hor
    exact ⟨hoff.trans h0, hwd.trans hk, c', d', h1, h2, ⟨fun e j he hj => by obtain ⟨v', g1, g2⟩ := h4.val e j he hj; exact ⟨v', g1, VR_noBlk (ρ := ρ) (ρ' := ρ.via L) rfl _ _ (cst_noBlk (h4.one e j he hj)) g2⟩, h4.one⟩⟩
  | .mp g p n, o', hb, hor => colO_OR h (.mp g p n) o' hb trivial hor
def smallH (G : Nat → Option LO) (F : List Nat) : Heap := mkH (F.map fun b => match G b with | some o => some (colO F o) | none => none)
theorem smallH_congr {G G' : Nat → Option LO} {F : List Nat} (h : ∀ b ∈ F, G b = G' b) : smallH G F = smallH G' F := by
  unfold smallH
  congr 1
  exact List.map_congr_left fun b hb => by rw [h b hb]
theorem RepF.via (hr : RepF ρ G w) {F : List Nat} (hnd : F.Nodup) (hlen : F.length < 1000000) (hcol : ∀ b ∈ F, ∀ o, G b = some o → colOB F o = true) : Rep (ρ.via F) (smallH G F) w := by
  have hlb : (F.map fun b => match G b with | some o => some (colO F o) | none => none).length < big := by simp [big]; omega
  have hget : ∀ j, (smallH G F).get j = (F[j]?).bind fun b => match G b with | some o => some (colO F o) | none => none := by
    intro j
    unfold smallH
    rw [mkH_get _ hlb]
    simp only [List.getElem?_map]
    cases F[j]? <;> rfl
  have hgot : ∀ j o, (smallH G F).get j = some o → ∃ b o0, F[j]? = some b ∧ G b = some o0 ∧ o = colO F o0 := by
    intro j o ho
    rw [hget] at ho
    cases hj : F[j]? with
    | none => rw [hj] at ho; simp at ho
    | some b =>
      rw [hj] at ho; simp only [Option.bind_some] at ho
      cases hb : G b with
      | none => rw [hb] at ho; simp at ho
      | some o0 =>
        rw [hb] at ho; simp only [Option.some.injEq] at ho
        exact ⟨b, o0, rfl, hb, ho.symm⟩
  have hown : ∀ o, (colO F o).own = o.own := fun o => by cases o <;> rfl
  have hnx : (smallH G F).next = F.length := by simp [smallH, mkH]
  refine ⟨by rw [hnx]; unfold big; omega, fun i b hb => ?_, fun i j b o hi ho hj h1 h2 => ?_, fun i o ho => ?_, fun i o ho hoo => ?_, fun i k g n ho => ?_, ⟨hr.fix.held, fun i b o e hi => ?_⟩⟩
  rotate_right
  · have hi' : (F[i]?).bind ρ.b = some b := hi
    cases hL : F[i]? with
    | none => rw [hL] at hi'; simp at hi'
    | some x =>
      rw [hL] at hi'; simp only [Option.bind_some] at hi'
      rw [(via_get ρ hL).2.2.1]; exact hr.fix.ro x b o e hi'
  · simp only [Ren.via] at hb
    cases hL : F[i]? with
    | none => rw [hL] at hb; simp at hb
    | some x =>
      rw [hL] at hb; simp only [Option.bind_some] at hb
      exact ⟨by rw [hnx]; exact (List.getElem?_eq_some_iff.1 hL).1, hr.dom x b hb⟩
  · obtain ⟨bi, oi, e1, e2, rfl⟩ := hgot i o hi
    obtain ⟨oj', hoj⟩ := Option.isSome_iff_exists.1 hj
    obtain ⟨bj, oj, e3, e4, rfl⟩ := hgot j oj' hoj
    rw [(via_get ρ e1).1] at h1
    rw [(via_get ρ e3).1] at h2
    have := hr.inj bi bj b oi e2 (by rw [← hown]; exact ho) (by rw [e4]; rfl) h1 h2
    subst this
    have hli := (List.getElem?_eq_some_iff.1 e1).1
    exact (List.getElem?_inj hli hnd).1 (e1.trans e3.symm)
  · obtain ⟨b, o0, e1, e2, rfl⟩ := hgot i o ho
    rw [hnx]; exact (List.getElem?_eq_some_iff.1 e1).1
  · obtain ⟨b, o0, e1, e2, rfl⟩ := hgot i o ho
    obtain ⟨hro, c, o', hc, hw, hor⟩ := hr.obj b o0 e2 (by rw [← hown]; exact hoo)
    have hv := via_get ρ e1
    exact ⟨fun _ => by rw [hv.2.2.1, hro], c, o', hv.1.trans hc, hw, colO_OR' e1 o0 o' (hcol b (List.mem_of_getElem? e1) o0 e2) hor⟩
  · obtain ⟨b, o0, e1, e2, e3⟩ := hgot i _ ho
    have e4 : o0 = .arg k g n := by cases o0 <;> simp [colO] at e3 <;> simp_all
    subst e4
    obtain ⟨hro, har⟩ := hr.arg b k g n e2
    have hv := via_get ρ e1
    refine ⟨hv.2.2.1.trans hro, hv.2.2.2.2.trans har.wd, fun e j he hj => ?_⟩
    obtain ⟨h1, c, v', hc, hcell, hvr⟩ := har.cell e j he hj
    exact ⟨h1, c, v', hv.1.trans hc, by rw [hv.2.2.2.1]; exact hcell, VR_noBlk (ρ := ρ) (ρ' := ρ.via F) rfl _ _ (cst_noBlk h1) hvr⟩
theorem tau_lt {F : List Nat} {n0 i : Nat} (h : i < F.length) : F[i]? = some (tau F n0 i) := by
  unfold tau; rw [ext_lt h]; unfold sg
  rw [List.getD_eq_getElem?_getD, List.getElem?_eq_getElem h]; rfl
theorem tau_ge {F : List Nat} {n0 i : Nat} (h : F.length ≤ i) : tau F n0 i = n0 + (i - F.length) := by unfold tau; exact ext_ge h
theorem tau_inj {F : List Nat} {n0 m : Nat} (hnd : F.Nodup) (hF : ∀ b ∈ F, b < n0 ∨ n0 + m ≤ b) : ∀ i j, i < F.length + m → j < F.length + m → tau F n0 i = tau F n0 j → i = j := by
  intro i j hi hj e
  rcases Nat.lt_or_ge i F.length with h1 | h1 <;> rcases Nat.lt_or_ge j F.length with h2 | h2
  · exact (List.getElem?_inj h1 hnd).1 (by rw [tau_lt (n0 := n0) h1, tau_lt (n0 := n0) h2, e])
  · have := hF _ (List.mem_of_getElem? (tau_lt (n0 := n0) h1)); rw [tau_ge h2] at e; omega
  · have := hF _ (List.mem_of_getElem? (tau_lt (n0 := n0) h2)); rw [tau_ge h1] at e; omega
  · rw [tau_ge h1, tau_ge h2] at e; omega
theorem RepF.merge (hr : RepF ρ G w) {F : List Nat} (hnd : F.Nodup) (hfull : ∀ b ∈ F, ∃ o, G b = some o) {n0 m : Nat} (hF : ∀ b ∈ F, b < n0 ∨ n0 + m ≤ b) (hfree : ∀ i, n0 ≤ i → i < n0 + m → ρ i = none ∧ G i = none)
    {ρs' : Ren} {Hs' : Heap} {w' : World} (hle : Ren.le (ρ.via F) ρs') (hfr : Fresh (ρ.via F) ρs' w) (hrs' : Rep ρs' Hs' w') (hl0 : Hs'.lock = 0) (hkeep : Keep (ρ.via F) w w') (hn : Hs'.next ≤ F.length + m)
    {G' : Nat → Option LO} (hG1 : ∀ i, i < F.length + m → G' (tau F n0 i) = (Hs'.get i).map (renO (tau F n0))) (hG2 : ∀ k, (∀ i, i < F.length + m → tau F n0 i ≠ k) → G' k = G k) :
    ∃ ρ' : Ren, Ren.le ρ ρ' ∧ (∀ k b, ρ' k = some b → ρ k = some b ∨ ∃ i, i < F.length + m ∧ tau F n0 i = k) ∧ Fresh ρ ρ' w ∧ Keep ρ w w' ∧ RepF ρ' G' w' ∧ Ren.le ρs' (ρ'.comp (tau F n0)) := by
  have tinj := tau_inj (n0 := n0) (m := m) hnd hF
  generalize hτ : tau F n0 = τ at *
  have tlt : ∀ i, i < F.length → F[i]? = some (τ i) := fun i hi => by rw [← hτ]; exact tau_lt hi
  have tge : ∀ i, F.length ≤ i → τ i = n0 + (i - F.length) := fun i hi => by rw [← hτ]; exact tau_ge hi
  let back : Nat → Option Nat := fun k => if (ρ k).isSome then none else (List.range (F.length + m)).find? (fun i => τ i == k)
  have back_some : ∀ k i, back k = some i → i < F.length + m ∧ τ i = k ∧ ρ k = none := by
    intro k i h
    simp only [back] at h
    split at h
    · cases h
    · rename_i hn
      have h1 := List.find?_some h
      have h2 := List.mem_of_find?_eq_some h
      exact ⟨List.mem_range.1 h2, by simpa using h1, by simpa using hn⟩
  have back_tau : ∀ i, i < F.length + m → ρ (τ i) = none → back (τ i) = some i := by
    intro i hi hn
    simp only [back]
    rw [if_neg (by rw [hn]; simp)]
    cases hf : (List.range (F.length + m)).find? (fun j => τ j == τ i) with
    | none =>
      have := List.find?_eq_none.1 hf i (List.mem_range.2 hi)
      simp at this
    | some j =>
      have h1 := List.find?_some hf
      have h2 := List.mem_of_find?_eq_some hf
      rw [tinj j i (List.mem_range.1 h2) hi (by simpa using h1)]
  have back_old : ∀ k b, ρ k = some b → back k = none := by
    intro k b hb
    simp only [back]
    rw [if_pos (by rw [hb]; rfl)]
  let ρ' : Ren := ⟨fun k => match back k with | some i => ρs' i | none => ρ k, fun k => match back k with | some i => ρs'.cap i | none => ρ.cap k, fun k => match back k with | some i => ρs'.ro i | none => ρ.ro k,
    fun k => match back k with | some i => ρs'.off i | none => ρ.off k, fun k => match back k with | some i => ρs'.wd i | none => ρ.wd k, ρ.tok⟩
  have viaB : ∀ k i, back k = some i → (ρ' k = ρs' i ∧ ρ'.cap k = ρs'.cap i ∧ ρ'.ro k = ρs'.ro i ∧ ρ'.off k = ρs'.off i ∧ ρ'.wd k = ρs'.wd i) := by
    intro k i h
    simp only [ρ', h, and_self]
  have viaN : ∀ k, back k = none → Ren.same ρ ρ' k := by
    intro k h
    refine ⟨?_, ?_, ?_, ?_, ?_⟩ <;> simp only [ρ', h]
  have old : ∀ k b, ρ k = some b → Ren.same ρ ρ' k := fun k b hb => viaN k (back_old k b hb)
  have hsame : ∀ i, i < F.length + m → Ren.same ρs' (ρ'.comp τ) i := by
    intro i hi
    cases hb : ρ (τ i) with
    | some b0 =>
      have hiF : i < F.length := by
        rcases Nat.lt_or_ge i F.length with h | h
        · exact h
        · exfalso
          have h1 := tge i h
          have := (hfree (τ i) (by omega) (by omega)).1
          rw [this] at hb; cases hb
      have hv := via_get ρ (tlt i hiF)
      have h1 := hle i b0 (hv.1.trans hb)
      have h2 := old (τ i) b0 hb
      exact ⟨h2.b.trans (hv.1.symm.trans h1.b.symm), h2.cap.trans (hv.2.1.symm.trans h1.cap.symm), h2.ro.trans (hv.2.2.1.symm.trans h1.ro.symm), h2.off.trans (hv.2.2.2.1.symm.trans h1.off.symm), h2.wd.trans (hv.2.2.2.2.symm.trans h1.wd.symm)⟩
    | none =>
      have h1 := viaB (τ i) i (back_tau i hi hb)
      exact ⟨h1.1, h1.2.1, h1.2.2.1, h1.2.2.2.1, h1.2.2.2.2⟩
  have hles : Ren.le ρs' (ρ'.comp τ) := ⟨fun i b hb => hsame i (by have := (hrs'.dom i b hb).1; omega), hle.tok.symm⟩
  have hold : Ren.le ρ ρ' := ⟨old, rfl⟩
  have hviaj : ∀ j b, (ρ.via F) j = some b → ∃ x, F[j]? = some x ∧ ρ x = some b := by
    intro j b hb
    cases hL : F[j]? with
    | none => simp only [Ren.via, hL] at hb; simp at hb
    | some x => exact ⟨x, rfl, by rw [← (via_get ρ hL).1]; exact hb⟩
  have hfresh : Fresh ρ ρ' w := by
    intro k b hb
    cases hk : back k with
    | none =>
      have hs := viaN k hk
      exact .inr ⟨k, by rw [← hs.b]; exact hb, fun e => by rw [← hs.ro]; exact e⟩
    | some i =>
      obtain ⟨e1, _, e3, _⟩ := viaB k i hk
      rw [e1] at hb
      rcases hfr i b hb with h1 | ⟨j, h1, h2⟩
      · exact .inl h1
      · obtain ⟨x, h3, h4⟩ := hviaj j b h1
        exact .inr ⟨x, h4, fun e => by rw [← (via_get ρ h3).2.2.1]; exact h2 (by rw [← e3]; exact e)⟩
  have hkeep' : Keep ρ w w' := ⟨hkeep.os, hkeep.tape, hkeep.output, hkeep.size, fun k hk hi => hkeep.block k hk (fun i e => by
    obtain ⟨x, h3, h4⟩ := hviaj i k e
    rw [(via_get ρ h3).2.2.1]; exact hi x h4)⟩
  have apart : ∀ k o b j, G k = some o → k ∉ F → ρ k = some b → (ρ.via F) j = some b → (o.own = true ∨ (ρ.via F).ro j = false) → False := by
    intro k o b j hk hn hb hj hor
    obtain ⟨x, h3, h4⟩ := hviaj j b hj
    have hxF := List.mem_of_getElem? h3
    obtain ⟨ox, hox⟩ := hfull x hxF
    rcases hor with ho | ho
    · have := hr.inj k x b o hk ho (by rw [hox]; rfl) hb h4
      subst this; exact hn hxF
    · rw [(via_get ρ h3).2.2.1] at ho
      have hown : ox.own = true := by
        rcases LO.arg_or ox with h1 | ⟨a1, a2, a3, h1⟩
        · exact h1
        · rw [h1] at hox
          rw [(hr.arg _ _ _ _ hox).1] at ho; cases ho
      have := hr.inj x k b ox hox hown (by rw [hk]; rfl) h4 hb
      subst this; exact hn hxF
  have hobj : ∀ k o, G' k = some o → (∃ i os, i < F.length + m ∧ τ i = k ∧ Hs'.get i = some os ∧ o = renO τ os) ∨ (k ∉ F ∧ back k = none ∧ G k = some o) := by
    intro k o ho
    by_cases hex : ∃ i, i < F.length + m ∧ τ i = k
    · obtain ⟨i, hi, rfl⟩ := hex
      rw [hG1 i hi] at ho
      simp only [Option.map_eq_some_iff] at ho
      obtain ⟨os, h1, h2⟩ := ho
      exact .inl ⟨i, os, hi, rfl, h1, h2.symm⟩
    · rw [hG2 k (fun i hi e => hex ⟨i, hi, e⟩)] at ho
      refine .inr ⟨fun hk => ?_, ?_, ho⟩
      · obtain ⟨i, hi, e⟩ := List.getElem_of_mem hk
        refine hex ⟨i, by omega, ?_⟩
        have := tlt i hi
        rw [List.getElem?_eq_getElem hi, e] at this
        exact (Option.some.inj this).symm
      · cases hbk : back k with
        | none => rfl
        | some i =>
          obtain ⟨h1, h2, _⟩ := back_some k i hbk
          exact absurd ⟨i, h1, h2⟩ hex
  refine ⟨ρ', hold, fun k b hb => ?_, hfresh, hkeep', ⟨?_, ?_, ?_, ?_, hr.fix.step hfresh hkeep'⟩, hles⟩
  · cases hk : back k with
    | none => exact .inl (by rw [← (viaN k hk).b]; exact hb)
    | some i => obtain ⟨h1, h2, _⟩ := back_some k i hk; exact .inr ⟨i, h1, h2⟩
  · intro k b hb
    cases hk : back k with
    | none =>
      have hb' : ρ k = some b := by rw [← (viaN k hk).b]; exact hb
      exact Nat.lt_of_lt_of_le (hr.dom k b hb') hkeep.size
    | some i =>
      rw [(viaB k i hk).1] at hb
      exact (hrs'.dom i b hb).2
  · intro k1 k2 b o1 h1 hown h2 hb1 hb2
    obtain ⟨o2, h2'⟩ := Option.isSome_iff_exists.1 h2
    have toS : ∀ i, i < F.length + m → ρ' (τ i) = ρs' i := fun i hi => (hsame i hi).b
    rcases hobj k1 o1 h1 with ⟨i1, os1, l1, rfl, g1, rfl⟩ | ⟨n1, bk1, g1⟩
    · have c1 : ρs' i1 = some b := by rw [← toS i1 l1]; exact hb1
      rw [own_ren] at hown
      rcases hobj k2 o2 h2' with ⟨i2, os2, l2, rfl, g2, rfl⟩ | ⟨n2, bk2, g2⟩
      · have c2 : ρs' i2 = some b := by rw [← toS i2 l2]; exact hb2
        rw [hrs'.inj i1 i2 b os1 g1 hown (by rw [g2]; rfl) c1 c2]
      · exfalso
        have hb2' : ρ k2 = some b := by rw [← (viaN k2 bk2).b]; exact hb2
        rcases hfr i1 b c1 with h3 | ⟨j, h3, h4⟩
        · have := hr.dom k2 b hb2'; omega
        · exact apart k2 o2 b j g2 n2 hb2' h3 (.inr (h4 (hrs'.ro0 hl0 g1 hown)))
    · have hb1' : ρ k1 = some b := by rw [← (viaN k1 bk1).b]; exact hb1
      rcases hobj k2 o2 h2' with ⟨i2, os2, l2, rfl, g2, rfl⟩ | ⟨n2, bk2, g2⟩
      · exfalso
        have c2 : ρs' i2 = some b := by rw [← toS i2 l2]; exact hb2
        rcases hfr i2 b c2 with h3 | ⟨j, h3, h4⟩
        · have := hr.dom k1 b hb1'; omega
        · exact apart k1 o1 b j g1 n1 hb1' h3 (.inl hown)
      · have hb2' : ρ k2 = some b := by rw [← (viaN k2 bk2).b]; exact hb2
        exact hr.inj k1 k2 b o1 g1 hown (by rw [g2]; rfl) hb1' hb2'
  · intro k o ho hown
    rcases hobj k o ho with ⟨i, os, l, rfl, g, rfl⟩ | ⟨n, bk, g⟩
    · rw [own_ren] at hown
      have hro := hrs'.ro0 hl0 g hown
      obtain ⟨_, b, o', hb, hw, hor⟩ := hrs'.obj i os g hown
      have hs := hsame i l
      exact ⟨hs.ro.trans hro, b, o', hs.b.trans hb, hw, (OR_ren os o').2 (OR.mono hles hs.cap hs.off hs.wd os o' hor)⟩
    · obtain ⟨hro, b, o', hb, hw, hor⟩ := hr.obj k o g hown
      have hs := old k b hb
      refine ⟨hs.ro.trans hro, b, o', hs.b.trans hb, ?_, OR.mono hold hs.cap hs.off hs.wd o o' hor⟩
      rw [hkeep.block b (hr.dom k b hb) (fun i e => (apart k o b i g n hb e (.inl hown)).elim)]
      exact hw
  · intro k k' gg nn ho
    rcases hobj k _ ho with ⟨i, os, l, rfl, g, e⟩ | ⟨n, bk, g⟩
    · cases os with
      | arg q1 q2 q3 =>
        simp only [renO, LO.arg.injEq] at e
        obtain ⟨rfl, rfl, rfl⟩ := e
        obtain ⟨hro, har⟩ := hrs'.arg i _ _ _ g
        have hs := hsame i l
        exact ⟨hs.ro.trans hro, AR_ren.2 (har.mono hles hs.wd)⟩
      | _ => simp [renO] at e
    · obtain ⟨hro, har⟩ := hr.arg k _ _ _ g
      have hs := viaN k bk
      refine ⟨hs.ro.trans hro, (har.world (fun b hb => ?_)).mono hold hs.wd⟩
      refine hkeep.block b (hr.dom k b hb) (fun i e => ?_)
      cases hro2 : (ρ.via F).ro i with
      | true => rfl
      | false => exact (apart k _ b i g n hb e (.inr hro2)).elim
end
end Go.Ly
namespace Go.Ly
open Go.RowKit
inductive KI where
  | code (c : Code)
  | inBlock (id : Nat)
  | inLoop (c : Code)
  | inScope (c : Code)
  | ops (all : Array Oper) (l : List Oper)
  | opsQ (all : Array Oper) (n : Nat) (l : List Oper)
structure Fr where
  fn : Func
  t : Tr Value
  k : List KI
  dst : Option Tmp
structure St where
  top : Fr
  rest : List Fr
  H : Heap
  base : Nat
inductive SR where
  | go (S : St)
  | tst (b : Bool) (x y : SR)
  | done (v : Value) (H : Heap)
  | stop
  | no
structure Ctx extends Env where
  con : Nat → Heap → List Value → ER
  opq : Nat → Bool
  hcon : Nat → Heap → List Value → ER
  /-- of heaps that are not known: a region whose order is open by the kit's test alone -/
  lex : Bool := false
def ConGood (P : Program) (ρ : Ren) (f : Nat) (args : List Value) (w : World) : ER → Prop
  | .val v => ∃ v', VR ρ v v' ∧ Calls P f ⟨args⟩ w (fun e w' => e = .returned v' ∧ Below w.heap.size w w')
  | .tst b x y => (b = true → ConGood P ρ f args w x) ∧ (b = false → ConGood P ρ f args w y)
  | _ => True
def LCalls (P : Program) (f : FuncId) (args : List Value) (H : Heap) (Q : Value → Heap → Prop) : Prop := ∀ (ρ : Ren) (args' : List Value) (w : World), VRL ρ args args' → Rep ρ H w → Calls P f ⟨args'⟩ w (fun e w' => ∃ ρ' v v' H', e = .returned v' ∧ Q v H' ∧ Ren.le ρ ρ' ∧ Fresh ρ ρ' w ∧ VR ρ' v v' ∧ Rep ρ' H' w' ∧ Keep ρ w w')
def HGood (P : Program) (f : Nat) (args : List Value) (H : Heap) : ER → Prop
  | .val v => LCalls P f args H (fun u K => u = v ∧ K = H)
  | .mem v H' => LCalls P f args H (fun u K => u = v ∧ K = H')
  | .tst b x y => (b = true → HGood P f args H x) ∧ (b = false → HGood P f args H y)
  | _ => True
structure Ctx.Ok (C : Ctx) (P : Program) : Prop extends C.toEnv.Ok P where
  con : ∀ f args ρ args' w H, VRL ρ args args' → Rep ρ H w → ConGood P ρ f args' w (C.con f H args)
  hcon : ∀ f H args, HGood P f args H (C.hcon f H args)
structure AF where
  fn : Func
  k : List KI
  dst : Option Tmp
  a : Act
def loopWp (P : Program) (c : Code) (Q : Exit → Act → World → Prop) (a : Act) (w : World) : Prop := ∀ (b : Frame) (k : List Item) (cs : List Frame), ∃ e a' w', Q e a' w' ∧ Arrives P (lone (b.at a (.inLoop c :: k)) cs w) b k cs e a' w'
def scopeWp (P : Program) (c rest : Code) (Q : Exit → Act → World → Prop) (a : Act) (w : World) : Prop := ∀ (b : Frame) (k : List Item) (cs : List Frame), ∃ e a' w', Q e a' w' ∧ Arrives P (lone (b.at a (.code rest :: .inScope c :: k)) cs w) b k cs e a' w'
def scopePost (P : Program) (c : Code) (Q : Exit → Act → World → Prop) : Exit → Act → World → Prop
  | .goto l, a, w => match findLabel c l with
    | some rest => scopeWp P c rest Q a w
    | none => Q (.goto l) a w
  | e, a, w => Q e a w
def afterWp (P : Program) : List KI → (Exit → Act → World → Prop) → Exit → Act → World → Prop
  | [], Q, e, a, w => Q e a w
  | .code c :: k, Q, .normal, a, w => c.wp P (afterWp P k Q) a w
  | .inBlock _ :: k, Q, .normal, a, w => afterWp P k Q .normal a w
  | .inBlock id :: k, Q, .exit id', a, w => if id' = id then afterWp P k Q .normal a w else afterWp P k Q (.exit id') a w
  | .inLoop c :: k, Q, .normal, a, w => loopWp P c (afterWp P k Q) a w
  | .inScope c :: k, Q, e, a, w => scopePost P c (afterWp P k Q) e a w
  | .ops all l :: k, Q, .normal, a, w => wpList P all (afterWp P k Q) l a w
  | .opsQ all n l :: k, Q, .normal, a, w => wpQuiet P all (Below w.heap.size w) (fun a' => ∀ w', Below w.heap.size w w' → wpList P all (afterWp P k Q) (all.toList.drop n) a' w') l a
  | _ :: k, Q, e, a, w => afterWp P k Q e a w
def resumeWp (P : Program) : List AF → (Value → World → Prop) → Value → World → Prop
  | [], R, v, w => R v w
  | f :: r, R, v, w => afterWp P f.k (bodyPost P f.fn (fun e w => ∃ v', e = .returned v' ∧ resumeWp P r R v' w)) .normal (f.a.put f.dst v) w
def topPost (P : Program) (fn : Func) (rest : List AF) (R : Value → World → Prop) : Exit → Act → World → Prop := bodyPost P fn (fun e w => ∃ v', e = .returned v' ∧ resumeWp P rest R v' w)
def stateWp (P : Program) (g : AF) (gs : List AF) (R : Value → World → Prop) (w : World) : Prop := afterWp P g.k (topPost P g.fn gs R) .normal g.a w
structure FR (ρ : Ren) (f : Fr) (g : AF) : Prop where
  fn : g.fn = f.fn
  k : g.k = f.k
  dst : g.dst = f.dst
  t : TR ρ f.fn.ntmps f.t g.a
def FRL (ρ : Ren) : List Fr → List AF → Prop
  | [], l => l = []
  | f :: r, l => ∃ g r', FR ρ f g ∧ FRL ρ r r' ∧ l = g :: r'
theorem FR.mono {ρ ρ' : Ren} (h : Ren.le ρ ρ') {f : Fr} {g : AF} (hf : FR ρ f g) : FR ρ' f g := ⟨hf.fn, hf.k, hf.dst, hf.t.mono h⟩
theorem FRL.mono {ρ ρ' : Ren} (h : Ren.le ρ ρ') : ∀ {l : List Fr} {l' : List AF}, FRL ρ l l' → FRL ρ' l l'
  | [], _, e => e
  | f :: r, _, e => by
    simp only [FRL] at e ⊢
    obtain ⟨g, r', h1, h2, rfl⟩ := e
    exact ⟨g, r', h1.mono h, FRL.mono h h2, rfl⟩
def Ren.cut (ρ : Ren) (n : Nat) : Ren := ⟨fun i => if i < n then ρ i else none, ρ.cap, ρ.ro, ρ.off, ρ.wd, ρ.tok⟩
theorem Ren.cut_le {ρ ρ' : Ren} (h : Ren.le ρ ρ') (n : Nat) : Ren.le (ρ.cut n) (ρ'.cut n) := ⟨fun i b e => by
  simp only [Ren.cut] at e
  split at e
  · rename_i hi
    have := h i b e
    exact ⟨by simp only [Ren.cut]; rw [if_pos hi, if_pos hi]; exact this.b, this.cap, this.ro, this.off, this.wd⟩
  · exact (nomatch e), h.tok⟩
theorem Ren.le_cut (ρ : Ren) (n : Nat) : Ren.le (ρ.cut n) ρ := ⟨fun i b e => by
  simp only [Ren.cut] at e
  split at e
  · rename_i hi; exact ⟨by simp only [Ren.cut]; rw [if_pos hi], rfl, rfl, rfl, rfl⟩
  · exact (nomatch e), rfl⟩
def MWp (P : Program) (S : St) (Q : Value → Heap → Prop) : Prop := ∀ (ρ : Ren) (w : World) (g : AF) (gs : List AF) (R : Value → World → Prop), Rep ρ S.H w → FR ρ S.top g → FRL ρ S.rest gs → (∀ (ρ' : Ren) (v v' : Value) (H' : Heap) (w' : World), Q v H' → Ren.le (ρ.cut S.base) ρ' → Fresh ρ ρ' w → VR ρ' v v' → Rep ρ' H' w' → Keep ρ w w' → R v' w') → stateWp P g gs R w
def SR.sat (P : Program) (Q : Value → Heap → Prop) : SR → Prop
  | .go S => MWp P S Q
  | .tst b x y => (b = true → x.sat P Q) ∧ (b = false → y.sat P Q)
  | .done v H => Q v H
  | .stop => False
  | .no => False
end Go.Ly
namespace Go.Ly
open Go.RowKit
inductive XR where
  | pure (v : Value)
  | mem (v : Value) (H : Heap)
  | tst (b : Bool) (x y : XR)
  | no
def hconX (Hs : Heap) : ER → XR
  | .val v => .mem v Hs
  | .mem v H => .mem v H
  | .tst b x y => .tst b (hconX Hs x) (hconX Hs y)
  | _ => .no
def conX (alt : XR) : ER → XR
  | .val v => .pure v
  | .tst b x y => .tst b (conX alt x) (conX alt y)
  | _ => alt
def erX (C : Ctx) (Hs : Heap) : ER → XR
  | .val v => .pure v
  | .mem v H => .mem v H
  | .skip H => .mem undef H
  | .call f args => bif C.opq f then conX (hconX Hs (C.hcon f Hs args)) (C.con f Hs args) else .no
  | .tst b x y => .tst b (erX C Hs x) (erX C Hs y)
  | .no => .no
def guardX (all : Array Oper) (t : Tr Value) (o : Oper) (yes : XR) : XR :=
  match o.guard with
  | none => yes
  | some (j, want) =>
    match (all.toList[j]?).bind (·.dst) with
    | none => .pure undef
    | some d =>
      match (t.get d).getD undef with
      | .bool b => bif b == want then yes else .pure undef
      | .tuple _ => .pure undef
      | _ => .no
section
variable {P : Program} {C : Ctx} {ops : Array Oper} {Q : Exit → Act → World → Prop}
def XGood (P : Program) (ops : Array Oper) (Q : Exit → Act → World → Prop) (k : Nat) (dst : Option Tmp) (ρ : Ren) (a : Act) (w : World) : XR → Prop
  | .pure v => ∀ K : Act → World → Prop, (∀ v' w', VR ρ v v' → Below w.heap.size w w' → K (a.put dst v') w') → wpOp P ops Q k K a w
  | .mem v H => ∀ K : Act → World → Prop, (∀ ρ' v' w', Ren.le ρ ρ' → Fresh ρ ρ' w → VR ρ' v v' → Rep ρ' H w' → Keep ρ w w' → K (a.put dst v') w') → wpOp P ops Q k K a w
  | .tst b x y => (b = true → XGood P ops Q k dst ρ a w x) ∧ (b = false → XGood P ops Q k dst ρ a w y)
  | .no => True
theorem conX_good {k : Nat} {dst : Option Tmp} {ρ : Ren} {a : Act} {w : World} {f : Nat} {args' : List Value} {alt : XR} (halt : XGood P ops Q k dst ρ a w alt)
    (hcall : ∀ K : Act → World → Prop, Calls P f ⟨args'⟩ w (fun e w' => ∃ v', e = .returned v' ∧ K (a.put dst v') w') → wpOp P ops Q k K a w) :
    ∀ r : ER, ConGood P ρ f args' w r → XGood P ops Q k dst ρ a w (conX alt r)
  | .val v, hg => by
    intro K hK
    obtain ⟨v', hv, hc⟩ := hg
    refine hcall K (hc.mono ?_)
    rintro e w' ⟨rfl, hb⟩
    exact ⟨v', rfl, hK v' w' hv hb⟩
  | .tst b x y, hg => ⟨fun h => conX_good halt hcall x (hg.1 h), fun h => conX_good halt hcall y (hg.2 h)⟩
  | .mem _ _, _ => halt
  | .skip _, _ => halt
  | .call _ _, _ => halt
  | .no, _ => halt
theorem hconX_good {k : Nat} {dst : Option Tmp} {ρ : Ren} {a : Act} {w : World} {Hs : Heap} (hr : Rep ρ Hs w) {f : Nat} {args args' : List Value} (ha : VRL ρ args args')
    (hcall : ∀ K : Act → World → Prop, Calls P f ⟨args'⟩ w (fun e w' => ∃ v', e = .returned v' ∧ K (a.put dst v') w') → wpOp P ops Q k K a w) :
    ∀ r : ER, HGood P f args Hs r → XGood P ops Q k dst ρ a w (hconX Hs r)
  | .val v, hg => by
    intro K hK
    refine hcall K ((hg ρ args' w ha hr).mono ?_)
    rintro e w' ⟨ρ', u, u', H', rfl, ⟨rfl, rfl⟩, h1, h2, h3, h4, h5⟩
    exact ⟨u', rfl, hK ρ' u' w' h1 h2 h3 h4 h5⟩
  | .mem v H, hg => by
    intro K hK
    refine hcall K ((hg ρ args' w ha hr).mono ?_)
    rintro e w' ⟨ρ', u, u', H', rfl, ⟨rfl, rfl⟩, h1, h2, h3, h4, h5⟩
    exact ⟨u', rfl, hK ρ' u' w' h1 h2 h3 h4 h5⟩
  | .tst b x y, hg => ⟨fun h => hconX_good hr ha hcall x (hg.1 h), fun h => hconX_good hr ha hcall y (hg.2 h)⟩
  | .skip _, _ => trivial
  | .call _ _, _ => trivial
  | .no, _ => trivial
theorem erX_good (hC : C.Ok P) {k : Nat} {o : Oper} (hk : ops[k]? = some o) {ρ : Ren} {a : Act} {w : World} {Hs : Heap} (hr : Rep ρ Hs w) (hw : Region.wanted o (yielded ops a.tmps) = true) :
    ∀ r : ER, Next.Good P ρ w ((execOp a.eval o).run P w) r → XGood P ops Q k o.dst ρ a w (erX C Hs r)
  | .val v, hg => by
    intro K hK
    obtain ⟨v', hv, hrun⟩ := hg
    unfold wpOp; simp only [hk, hw, if_true]
    left; unfold Oper.wp; rw [hrun]
    exact hK v' w hv (Below.refl _ _)
  | .mem v H, hg => by
    intro K hK
    obtain ⟨ρ', v', w', h1, h2, h3, hrun, h5, h6⟩ := hg
    unfold wpOp; simp only [hk, hw, if_true]
    left; unfold Oper.wp; rw [hrun]
    exact hK ρ' v' w' h1 h2 h3 h5 h6
  | .skip H, hg => by
    intro K hK
    obtain ⟨w', hrun, h5, h6⟩ := hg
    unfold wpOp; simp only [hk, hw, if_true]
    left; unfold Oper.wp; rw [hrun]
    exact hK ρ undef w' (Ren.le_refl _) (Fresh.refl _ _) VR_undef h5 h6
  | .call f args, hg => by
    obtain ⟨args', ha, hrun⟩ := hg
    have hcall : ∀ K : Act → World → Prop, Calls P f ⟨args'⟩ w (fun e w' => ∃ v', e = .returned v' ∧ K (a.put o.dst v') w') → wpOp P ops Q k K a w := by
      intro K hc
      unfold wpOp; simp only [hk, hw, if_true]
      left; unfold Oper.wp; rw [hrun]
      simp only [Oper.upon]
      refine hc.mono ?_
      rintro e w' ⟨v', rfl, h⟩
      exact h
    simp only [erX]
    cases C.opq f with
    | false => exact trivial
    | true => exact conX_good (hconX_good hr ha hcall _ (hC.hcon f Hs args)) hcall _ (hC.con f args ρ args' w Hs ha hr)
  | .tst b x y, hg => ⟨fun h => erX_good hC hk hr hw x (hg.1 h), fun h => erX_good hC hk hr hw y (hg.2 h)⟩
  | .no, _ => trivial
theorem op_good (hC : C.Ok P) {k : Nat} {o : Oper} (hk : ops[k]? = some o) (hsel : ∀ cs b, o.op ≠ .select cs b) {ρ : Ren} {Hs : Heap} {w : World} {ts : Tr Value} {a : Act} {n : Nat} (hr : Rep ρ Hs w) (hn : n < big) (hsz : a.tmps.size = n)
    (hts : ∀ x ∈ o.looksAt ops, VR ρ ((ts.get x).getD undef) (a.tmps.getD x undef)) (hno : ∀ x, x ∉ o.looksAt ops → ts.get x = none) :
    XGood P ops Q k o.dst ρ a w (guardX ops ts o (erX C Hs (evOp C.toEnv Hs ts o))) := by
  have hskip : Region.wanted o (yielded ops a.tmps) = false → XGood P ops Q k o.dst ρ a w (.pure undef) := by
    intro hw K hK
    unfold wpOp; simp only [hk, hw]
    exact hK undef w VR_undef (Below.refl _ _)
  have hyes : Region.wanted o (yielded ops a.tmps) = true → XGood P ops Q k o.dst ρ a w (erX C Hs (evOp C.toEnv Hs ts o)) := by
    intro hw
    let a' : Act := { tmps := Array.ofFn (n := n) fun i => if i.val ∈ o.looksAt ops then a.tmps.getD i.val undef else undef, defers := [] }
    have hget : ∀ i, a'.tmps.getD i undef = if i ∈ o.looksAt ops then a.tmps.getD i undef else undef := by
      intro i
      simp only [a', Array.getD_eq_getD_getElem?]
      by_cases hi : i < n
      · rw [Array.getElem?_ofFn]; simp [hi, hsz, Array.getD_eq_getD_getElem?]
      · rw [Array.getElem?_ofFn]
        have : a.tmps[i]? = none := Array.getElem?_eq_none (by omega)
        simp [hi, this]
    have ht : TR ρ n ts a' := by
      refine ⟨by simp [a'], hn, fun i => ?_, rfl⟩
      rw [hget]
      by_cases hi : i ∈ o.looksAt ops
      · rw [if_pos hi]; exact hts i hi
      · rw [if_neg hi, hno i hi]; exact VR_undef
    have hex : execOp a'.eval o = execOp a.eval o := by
      refine execOp_congr o hsel fun x hx => ?_
      cases x with
      | tmp i =>
        simp only [Act.eval]
        rw [hget, if_pos]
        exact List.mem_append_left _ (List.mem_filterMap.2 ⟨.tmp i, by simpa using hx, rfl⟩)
      | _ => rfl
    have hg := evOp_good hC.toOk hr ht o
    rw [hex] at hg
    exact erX_good hC hk hr hw _ hg
  unfold guardX
  cases hg : o.guard with
  | none => exact hyes (by unfold Region.wanted; rw [hg])
  | some jw =>
    obtain ⟨j, want⟩ := jw
    simp only
    have hj : (ops.toList[j]?).bind (·.dst) = (ops[j]?).bind (·.dst) := by simp
    rw [hj]
    cases hd : (ops[j]?).bind (·.dst) with
    | none =>
      have hy : yielded ops a.tmps j = none := by unfold yielded; rw [hd]; rfl
      exact hskip (by unfold Region.wanted; rw [hg]; simp only; rw [hy]; rfl)
    | some d =>
      simp only
      have hdl : d ∈ o.looksAt ops := by
        refine List.mem_append_right _ ?_
        rw [hg]; simp [hd]
      have hv := hts d hdl
      have hw : ∀ u, a.tmps.getD d undef = u → (yielded ops a.tmps j = match u with | .bool b => some b | _ => none) := by
        intro u hu
        unfold yielded; rw [hd]; simp only [Option.bind_some]
        by_cases hlt : d < a.tmps.size
        · have : a.tmps[d]? = some u := by
            rw [← hu, Array.getD_eq_getD_getElem?, Array.getElem?_eq_getElem hlt]; rfl
          rw [this]; cases u <;> rfl
        · have h0 : a.tmps[d]? = none := Array.getElem?_eq_none (Nat.le_of_not_lt hlt)
          rw [h0]
          rw [Array.getD_eq_getD_getElem?, h0] at hu
          subst hu; rfl
      revert hv
      generalize (ts.get d).getD undef = u
      intro hv
      cases u with
      | bool b =>
        simp only [VR] at hv
        have hy := hw _ hv
        show XGood P ops Q k o.dst ρ a w (bif b == want then erX C Hs (evOp C.toEnv Hs ts o) else .pure undef)
        cases hbw : (b == want) with
        | true =>
          rw [cond_true]
          refine hyes ?_
          unfold Region.wanted; rw [hg]; simp only; rw [hy]; simpa using hbw
        | false =>
          rw [cond_false]
          refine hskip ?_
          unfold Region.wanted; rw [hg]; simp only; rw [hy]; simpa using hbw
      | tuple xs =>
        obtain ⟨xs⟩ := xs
        simp only [VR] at hv
        obtain ⟨xs', _, e⟩ := hv
        have hy := hw _ e
        exact hskip (by unfold Region.wanted; rw [hg]; simp only; rw [hy]; rfl)
      | _ => exact trivial
end
end Go.Ly
namespace Go.Ly
open Go.RowKit
def LW {α : Type} (base : α) (wr : Nat → Bool) (val : Nat → α) (D : Nat → Bool) : Nat → α
  | 0 => base
  | k + 1 => bif D k && wr k then val k else LW base wr val D k
section
variable {α : Type} {base : α} {wr : Nat → Bool} {val : Nat → α} {D D' : Nat → Bool}
theorem LW_congr : ∀ {n : Nat}, (∀ j, j < n → wr j = true → D j = D' j) → LW base wr val D n = LW base wr val D' n
  | 0, _ => rfl
  | n + 1, h => by
    simp only [LW]
    rw [LW_congr (n := n) (fun j hj hw => h j (by omega) hw)]
    cases hw : wr n with
    | false => simp
    | true => rw [h n (by omega) hw]
theorem LW_cut (k : Nat) : ∀ {n : Nat}, k ≤ n → LW base wr val (fun j => decide (j < k)) n = LW base wr val (fun _ => true) k
  | 0, h => by
    have : k = 0 := by omega
    subst this; rfl
  | n + 1, h => by
    by_cases e : k = n + 1
    · subst e
      exact LW_congr (fun j hj _ => by simpa using hj)
    · simp only [LW]
      rw [show decide (n < k) = false by simp; omega]
      simp only [Bool.false_and, cond_false]
      exact LW_cut k (by omega)
theorem LW_ins {k0 : Nat} (h0 : D k0 = false) : ∀ {n : Nat}, (∀ j, k0 < j → j < n → wr j = true → D j = false) →
    LW base wr val (fun j => D j || decide (j = k0)) n = bif decide (k0 < n) && wr k0 then val k0 else LW base wr val D n
  | 0, _ => by simp [LW]
  | n + 1, h => by
    simp only [LW]
    rw [LW_ins (n := n) h0 (fun j h1 h2 => h j h1 (by omega))]
    by_cases e : n = k0
    · subst e
      simp only [decide_true, Bool.or_true, Bool.true_and, h0, Bool.false_and, cond_false]
      rw [show decide (n < n) = false by simp, show decide (n < n + 1) = true by simp]
      cases wr n <;> simp
    · rw [show decide (n = k0) = false by simpa using e, Bool.or_false]
      by_cases hl : k0 < n
      · rw [show decide (k0 < n) = true by simpa using hl, show decide (k0 < n + 1) = true by simp; omega]
        cases hw : wr n with
        | false => simp
        | true => rw [h n hl (by omega) hw]; simp
      · rw [show decide (k0 < n) = false by simpa using hl, show decide (k0 < n + 1) = false by simp; omega]
        simp
end
mutual
def bks : Value → List Nat
  | .pointer (some a) => [a.block]
  | .slice (some a) _ _ => [a.block]
  | .map (some r) => [r]
  | .func _ ⟨xs⟩ ⟨ys⟩ => bksL xs ++ bksL ys
  | .iface _ x => bks x
  | .agg ⟨xs⟩ => bksL xs
  | .tuple ⟨xs⟩ => bksL xs
  | .float _ r => [r]
  | _ => []
def bksL : List Value → List Nat
  | [] => []
  | v :: r => bks v ++ bksL r
end
def bksO : Option LO → List Nat
  | some (.cells c _) => bksL c
  | some (.row c _ _) => bksL c
  | _ => []
abbrev Mk := Nat → Nat → Value → Bool
def moL (q : Nat → Value → Bool) : Nat → List Value → List Value
  | _, [] => []
  | i, v :: r => (bif q i v then v else anyV) :: moL q (i + 1) r
def mo (q : Nat → Value → Bool) : LO → LO
  | .cells c t => .cells (moL q 0 c) t
  | .row c t z => .row (moL q 0 c) t z
  | o => o
def mkNo : Mk := fun _ _ v => (bks v).isEmpty
def mkAll (H : Heap) : Mk := fun _ _ v => blks (fun b => (H.get b).isSome) v
def mkAt (H : Heap) (b0 off size : Nat) : Mk := fun b i v => bif (bks v).isEmpty then true else bif Nat.beq b b0 && (Nat.ble off i && Nat.blt i (off + size)) then blks (fun b => (H.get b).isSome) v else false
def gOf (rd : Bool) (mk : Mk) (H : Heap) (b : Nat) : Option LO := bif rd then (H.get b).map (mo (mk b)) else none
def forceN {α : Type} (n : Nat) (k : Nat → α) : α := Nat.rec (motive := fun _ => α) (k 0) (fun m _ => k (Nat.succ m)) n
theorem forceN_eq {α : Type} (n : Nat) (k : Nat → α) : forceN n k = k n := by cases n <;> rfl
def addAll {α : Type} : List Nat → List Nat → (List Nat → α) → α
  | [], acc, k => k acc
  | x :: r, acc, k => forceN x fun x => bif memB acc x then addAll r acc k else addAll r (acc ++ [x]) k
def closeF {α : Type} (mk : Mk) (H : Heap) : Nat → Nat → List Nat → (List Nat → α) → α
  | 0, _, acc, k => k acc
  | f + 1, i, acc, k => match acc[i]? with
    | none => k acc
    | some b => addAll (bksO ((H.get b).map (mo (mk b)))) acc fun acc' => closeF mk H f (i + 1) acc' k
theorem addAll_eq {α : Type} : ∀ (l acc : List Nat), ∃ F, ∀ k : List Nat → α, addAll l acc k = k F
  | [], acc => ⟨acc, fun k => rfl⟩
  | x :: r, acc => by
    cases h : memB acc x with
    | true =>
      obtain ⟨F, hF⟩ := addAll_eq (α := α) r acc
      exact ⟨F, fun k => by rw [addAll, forceN_eq, h]; exact hF k⟩
    | false =>
      obtain ⟨F, hF⟩ := addAll_eq (α := α) r (acc ++ [x])
      exact ⟨F, fun k => by rw [addAll, forceN_eq, h]; exact hF k⟩
theorem closeF_eq {α : Type} (mk : Mk) (H : Heap) : ∀ (f i : Nat) (acc : List Nat), ∃ F, ∀ k : List Nat → α, closeF mk H f i acc k = k F
  | 0, _, acc => ⟨acc, fun k => rfl⟩
  | f + 1, i, acc => by
    cases h : acc[i]? with
    | none => exact ⟨acc, fun k => by simp only [closeF, h]⟩
    | some b =>
      obtain ⟨F1, h1⟩ := addAll_eq (α := α) (bksO ((H.get b).map (mo (mk b)))) acc
      obtain ⟨F, hF⟩ := closeF_eq (α := α) mk H f (i + 1) F1
      exact ⟨F, fun k => by simp only [closeF, h]; rw [h1, hF]⟩
def looksB (t : Tr Value) : List Tmp → List Nat
  | [] => []
  | x :: r => bks ((t.get x).getD undef) ++ looksB t r
structure Rc where
  F : List Nat
  wr : Bool
  n0 : Nat
  m : Nat
  v : Value
  H : Heap
  rd : Bool
  ms : Mk
  R : List Nat
inductive GX where
  | fin (t : Tr Value) (H : Heap) (rs : List Rc)
  | tst (b : Bool) (x y : GX)
  | no
def smallT (p : Nat → Nat) (t : Tr Value) : List Tmp → Tr Value
  | [] => .nil
  | x :: r => (smallT p t r).set x (some (renV p ((t.get x).getD undef)))
def opX (C : Ctx) (ops : Array Oper) (t : Tr Value) (G : Nat → Option LO) (F : List Nat) (o : Oper) : XR := guardX ops (smallT (posOf F) t (o.looksAt ops)) o (erX C (smallH G F) (evOp C.toEnv (smallH G F) (smallT (posOf F) t (o.looksAt ops)) o))
def mergeM (τ : Nat → Nat) (K : Heap) : Nat → Tr LO → Tr LO
  | 0, m => m
  | i + 1, m => (mergeM τ K i m).set (τ i) ((K.get i).map (renO τ))
def mergeH (H : Heap) (F : List Nat) (K : Heap) : Heap := { m := mergeM (tau F H.next) K K.next H.m, next := H.next + (K.next - F.length) }
def notSel : Op → Bool
  | .select _ _ => false
  | _ => true
def valOp : Op → Bool
  | .move _ | .assign _ | .pick .. | .build .. | .nilCheck _ | .binOp .. | .unOp .. | .makeFunc .. | .fieldAddr .. | .field .. | .indexAddr .. | .index .. | .extract .. | .slice .. => true
  | _ => false
def byN (t : Tr Value) (o : Oper) : Bool :=
  match o.op with
  | .indexAddr _ x _ => (match evx t x with | some (.slice (some a) _ _) => a.spot.isSome | _ => false)
  | .slice _ x _ _ _ => (match evx t x with | some (.slice (some a) _ _) => a.spot.isSome | _ => false)
  | _ => false
def isLoad : Op → Bool
  | .load .. => true
  | _ => false
mutual
def clean : Value → Bool
  | .chan _ => false
  | .agg ⟨xs⟩ => cleanL xs
  | .tuple ⟨xs⟩ => cleanL xs
  | _ => true
def cleanL : List Value → Bool
  | [] => true
  | v :: r => clean v && cleanL r
end
def okX (ops : Array Oper) (n : Nat) (t : Tr Value) (H : Heap) (F : List Nat) (rd : Bool) (mk : Mk) (o : Oper) : Bool :=
  nodupB F && (Nat.blt F.length 1000000 && (F.all (fun b => !rd || (Nat.blt b H.next && (match gOf true mk H b with | some x => colOB F x | none => false))) &&
    ((o.looksAt ops).all (fun x => Nat.blt x n && blks (memB F) ((t.get x).getD undef)) && (dstOk n o.dst && notSel o.op))))
def bindX (F : List Nat) (H : Heap) (k : Value → Option Heap → GX) : XR → GX
  | .pure v => k v none
  | .mem v K => bif Nat.beq K.lock 0 && (Nat.ble F.length K.next && Nat.blt (H.next + K.next) 2147483000) then k v (some K) else .no
  | .tst b x y => .tst b (bindX F H k x) (bindX F H k y)
  | .no => .no
def bindM (alt : GX) (k : Value → GX) : XR → GX
  | .pure v => bif clean v then k v else alt
  | .tst b x y => .tst b (bindM alt k x) (bindM alt k y)
  | _ => alt
def winM (E : Env) (t : Tr Value) (H : Heap) (o : Oper) : Mk :=
  match o.op with
  | .load ty p => match evx t p, E.ty.get ty with
    | some (.pointer (some a)), some i => (match a.spot with | none => mkAt H a.block a.off i.size | some _ => mkAll H)
    | _, _ => mkAll H
  | _ => mkAll H
def guardOf (ops : Array Oper) (n : Nat) (t : Tr Value) (o : Oper) : Option (Nat × Bool × Bool) :=
  match o.guard with
  | none => none
  | some (j, want) => match (ops.toList[j]?).bind (·.dst) with
    | none => none
    | some d => match t.get d with
      | some (.bool b) => bif Nat.blt d n then some (d, want, b) else none
      | _ => none
def gdX : Option (Nat × Bool × Bool) → Tr Value → (Tr Value → GX) → GX
  | none, t, k => k t
  | some (d, want, b), t, k => .tst (b == want) (k (t.set d (some (.bool want)))) (k (t.set d (some (.bool (!want)))))
abbrev Src := Oper → Tr Value → List Nat
def noS : Src := fun _ _ => []
def srcA : Src := fun o t => match o.op with
  | .call ⟨.builtin .append, ⟨[x, y]⟩, _⟩ => (match evx t x, evx t y with
    | some (.slice (some a) _ _), some (.slice (some b) _ _) => bif Nat.beq a.block b.block then [] else [b.block]
    | _, _ => [])
  | _ => []
def stayX (F : List Nat) (H' H : Heap) : List Nat → GX → GX
  | [], k => k
  | b :: r, k => bif memB F b then .tst (propB (H'.get b = H.get b)) (stayX F H' H r k) .no else .no
def regX (C : Ctx) (src : Src) (ops : Array Oper) (n : Nat) : List Oper → Tr Value → Heap → List Rc → GX
  | [], t, H, rs => .fin t H rs
  | o :: l, t, H, rs => gdX (guardOf ops n t o) t fun t => addAll (looksB t (o.looksAt ops)) [] fun F0 =>
    bif valOp o.op && !(byN t o) then
      (bif okX ops n t H F0 false mkNo o then
        bindX F0 H (fun v K => match K with
          | none => regX C src ops n l (putT t o.dst (renV (tau F0 H.next) v)) H (⟨F0, false, H.next, 0, v, H, false, mkNo, []⟩ :: rs)
          | some _ => .no) (opX C ops t (gOf false mkNo H) F0 o)
      else .no)
    else (fun full => bif isLoad o.op && okX ops n t H F0 true mkNo o then
        bindM (full 0) (fun v => regX C src ops n l (putT t o.dst (renV (tau F0 H.next) v)) H (⟨F0, false, H.next, 0, v, H, true, mkNo, []⟩ :: rs)) (opX C ops t (gOf true mkNo H) F0 o)
      else full 0) (fun (_ : Nat) => closeF (winM C.toEnv t H o) H 30 0 F0 fun F =>
    bif okX ops n t H F true (winM C.toEnv t H o) o then
      bindX F H (fun v K => match K with
        | none => regX C src ops n l (putT t o.dst (renV (tau F H.next) v)) H (⟨F, false, H.next, 0, v, H, true, winM C.toEnv t H o, []⟩ :: rs)
        | some K => stayX F (mergeH H F K) H (src o t) (regX C src ops n l (putT t o.dst (renV (tau F H.next) v)) (mergeH H F K) (⟨F, true, H.next, K.next - F.length, v, K, true, winM C.toEnv t H o, src o t⟩ :: rs))) (opX C ops t (gOf true (winM C.toEnv t H o) H) F o)
    else .no)
def maskF (ms : List Nat) : List Edge → Nat
  | [] => 0
  | e :: r => bif Region.binds .any e then Nat.lor (Nat.lor (Nat.shiftLeft 1 e.on) (ms.getD e.on 0)) (maskF ms r) else maskF ms r
def masks : List Oper → List Nat → List Nat
  | [], ms => ms
  | o :: l, ms => forceN (maskF ms o.after.toList) fun m => masks l (ms ++ [m])
def inter (rj rk : Rc) : Bool := rk.F.any fun b => (memB rj.F b && ((rj.wr && !(memB rj.R b)) || (rk.wr && !(memB rk.R b)))) || (Nat.ble rj.n0 b && Nat.blt b (rj.n0 + rj.m))
def confl (ops : Array Oper) (oj ok : Oper) (rj rk : Rc) : Bool := !(oj.apart ops ok) || ((rj.wr || rk.wr) && ((rj.rd && rk.rd) && inter rj rk))
def against (ops : Array Oper) (ok : Oper) (rk : Rc) (mk : Nat) : Nat → List (Oper × Rc) → Bool
  | _, [] => true
  | 0, _ => false
  | j + 1, (oj, rj) :: r => (!(confl ops oj ok rj rk) || Nat.testBit mk j) && against ops ok rk mk j r
def pairsB (ops : Array Oper) (ms : List Nat) : Nat → List (Oper × Rc) → Bool
  | _, [] => true
  | 0, _ => false
  | k + 1, (ok, rk) :: r => against ops ok rk (ms.getD k 0) k r && (ok.after.toList.all (fun e => !(Region.binds .any e) || Nat.blt e.on k) && pairsB ops ms k r)
def checkX (ops : Array Oper) (rs : List Rc) : Bool := pairsB ops (masks ops.toList []) ops.size (ops.toList.reverse.zip rs)
end Go.Ly
namespace Go.Ly
open Go.RowKit
section
variable {P : Program} {C : Ctx} {ops : Array Oper} {n : Nat}
theorem smallT_get (p : Nat → Nat) (t : Tr Value) : ∀ (l : List Tmp), (∀ x ∈ l, x < big) → ∀ y, (smallT p t l).get y = if y ∈ l then some (renV p ((t.get y).getD undef)) else none
  | [], _, y => by simp [smallT, Tr.get_nil]
  | x :: r, h, y => by
    simp only [smallT]
    rw [Tr.get_set _ _ _ (h x (by simp)), smallT_get p t r (fun z hz => h z (by simp [hz]))]
    by_cases e : y = x
    · subst e; simp
    · simp [e]
theorem mergeM_get {τ : Nat → Nat} {K : Heap} {m : Tr LO} : ∀ (c : Nat), (∀ i, i < c → τ i < big) → (∀ i j, i < c → j < c → τ i = τ j → i = j) →
    (∀ i, i < c → (mergeM τ K c m).get (τ i) = (K.get i).map (renO τ)) ∧ (∀ k, (∀ i, i < c → τ i ≠ k) → (mergeM τ K c m).get k = m.get k)
  | 0, _, _ => ⟨fun i h => by omega, fun _ _ => rfl⟩
  | c + 1, hb, hi => by
    obtain ⟨h1, h2⟩ := mergeM_get (τ := τ) (K := K) (m := m) c (fun i h => hb i (by omega)) (fun i j a b => hi i j (by omega) (by omega))
    refine ⟨fun i h => ?_, fun k h => ?_⟩
    · simp only [mergeM]
      rw [Tr.get_set _ _ _ (hb c (by omega))]
      by_cases e : τ i = τ c
      · rw [if_pos e, hi i c h (by omega) e]
      · rw [if_neg e]
        have : i ≠ c := fun h' => e (by rw [h'])
        exact h1 i (by omega)
    · simp only [mergeM]
      rw [Tr.get_set _ _ _ (hb c (by omega)), if_neg (fun e => h c (by omega) e.symm)]
      exact h2 k (fun i hi' => h i (by omega))
structure StepOk (P : Program) (ops : Array Oper) (n k : Nat) (o : Oper) (t : Tr Value) (H : Heap) (r : Rc) (t' : Tr Value) (H' : Heap) : Prop where
  ok : okX ops n t H r.F r.rd r.ms o = true
  rd : r.wr = true → r.rd = true
  n0 : r.n0 = H.next
  put : ∀ x, t'.get x = (putT t o.dst (renV (tau r.F H.next) r.v)).get x
  stay : ∀ b ∈ r.R, b ∈ r.F ∧ H'.get b = H.get b
  pure : r.wr = false → H' = H ∧ r.m = 0
  mem : r.wr = true → H' = mergeH H r.F r.H ∧ r.m = r.H.next - r.F.length ∧ r.F.length ≤ r.H.next ∧ H.next + r.H.next < big ∧ r.H.lock = 0
  good : ∀ (Q : Exit → Act → World → Prop) (ρ : Ren) (a : Act) (w : World), Rep ρ (smallH (gOf r.rd r.ms H) r.F) w → a.tmps.size = n → (∀ x ∈ o.looksAt ops, VR ρ (renV (posOf r.F) ((t.get x).getD undef)) (a.tmps.getD x undef)) →
    XGood P ops Q k o.dst ρ a w (bif r.wr then .mem r.v r.H else .pure r.v)
def GX.sat (ops : Array Oper) (R : Tr Value → Heap → Prop) : GX → Prop
  | .fin t H rs => checkX ops rs = true ∧ R t H
  | .tst b x y => (b = true → x.sat ops R) ∧ (b = false → y.sat ops R)
  | .no => False
theorem notSel_spec {o : Op} (h : notSel o = true) : ∀ cs b, o ≠ .select cs b := by
  rintro cs b rfl; simp [notSel] at h
def asXR (v : Value) : Option Heap → XR
  | some K => .mem v K
  | none => .pure v
theorem bindX_sat {R : Tr Value → Heap → Prop} {F : List Nat} {H : Heap} {k : Value → Option Heap → GX} : ∀ (x : XR), (bindX F H k x).sat ops R →
    ∃ (v : Value) (K : Option Heap), (k v K).sat ops R ∧ (∀ Kh, K = some Kh → F.length ≤ Kh.next ∧ H.next + Kh.next < big ∧ Kh.lock = 0) ∧
      ∀ (Q : Exit → Act → World → Prop) (i : Nat) (dst : Option Tmp) (ρ : Ren) (a : Act) (w : World), XGood P ops Q i dst ρ a w x → XGood P ops Q i dst ρ a w (asXR v K)
  | .pure v, h => ⟨v, none, h, (fun _ e => nomatch e), fun _ _ _ _ _ _ hx => hx⟩
  | .mem v Kh, h => by
    simp only [bindX] at h
    cases hc : (Nat.beq Kh.lock 0 && (Nat.ble F.length Kh.next && Nat.blt (H.next + Kh.next) 2147483000)) with
    | false => rw [hc] at h; exact h.elim
    | true =>
      rw [hc] at h
      rw [Bool.and_eq_true, Bool.and_eq_true] at hc
      refine ⟨v, some Kh, h, fun K' e => ?_, fun _ _ _ _ _ _ hx => hx⟩
      cases e
      exact ⟨Nat.le_of_ble_eq_true hc.2.1, by have := hc.2.2; simpa [Nat.blt_eq, big] using this, Nat.eq_of_beq_eq_true hc.1⟩
  | .tst b x y, h => by
    simp only [bindX, GX.sat] at h
    cases b with
    | true =>
      obtain ⟨v, K, h1, h2, h3⟩ := bindX_sat x (h.1 rfl)
      exact ⟨v, K, h1, h2, fun Q i dst ρ a w hx => h3 Q i dst ρ a w (hx.1 rfl)⟩
    | false =>
      obtain ⟨v, K, h1, h2, h3⟩ := bindX_sat y (h.2 rfl)
      exact ⟨v, K, h1, h2, fun Q i dst ρ a w hx => h3 Q i dst ρ a w (hx.2 rfl)⟩
  | .no, h => h.elim
theorem bindM_sat {R : Tr Value → Heap → Prop} {alt : GX} {k : Value → GX} : ∀ (x : XR), (bindM alt k x).sat ops R → alt.sat ops R ∨
    ∃ (v : Value), (k v).sat ops R ∧ ∀ (Q : Exit → Act → World → Prop) (i : Nat) (dst : Option Tmp) (ρ : Ren) (a : Act) (w : World), XGood P ops Q i dst ρ a w x → XGood P ops Q i dst ρ a w (asXR v none)
  | .pure v, h => by
    simp only [bindM] at h
    cases hc : clean v with
    | false => rw [hc] at h; exact .inl h
    | true => rw [hc] at h; exact .inr ⟨v, h, fun _ _ _ _ _ _ hx => hx⟩
  | .mem v Kh, h => .inl h
  | .tst b x y, h => by
    simp only [bindM, GX.sat] at h
    cases b with
    | true =>
      rcases bindM_sat x (h.1 rfl) with h1 | ⟨v, h1, h3⟩
      · exact .inl h1
      · exact .inr ⟨v, h1, fun Q i dst ρ a w hx => h3 Q i dst ρ a w (hx.1 rfl)⟩
    | false =>
      rcases bindM_sat y (h.2 rfl) with h1 | ⟨v, h1, h3⟩
      · exact .inl h1
      · exact .inr ⟨v, h1, fun Q i dst ρ a w hx => h3 Q i dst ρ a w (hx.2 rfl)⟩
  | .no, h => .inl h
theorem gdX_sat {R : Tr Value → Heap → Prop} (hn : n < big) {o : Oper} {t : Tr Value} {k : Tr Value → GX} (h : (gdX (guardOf ops n t o) t k).sat ops R) : ∃ t', (∀ x, t'.get x = t.get x) ∧ (k t').sat ops R := by
  cases hg : guardOf ops n t o with
  | none => rw [hg] at h; exact ⟨t, fun _ => rfl, h⟩
  | some g =>
    obtain ⟨d, want, b⟩ := g
    rw [hg] at h
    have hd : d < n ∧ t.get d = some (.bool b) := by
      unfold guardOf at hg
      split at hg
      · cases hg
      · split at hg
        · cases hg
        · split at hg
          · rename_i b' hb
            cases hc : Nat.blt _ n with
            | false => rw [hc] at hg; cases hg
            | true =>
              rw [hc] at hg
              simp only [cond_true, Option.some.injEq, Prod.mk.injEq] at hg
              obtain ⟨rfl, _, rfl⟩ := hg
              exact ⟨by simpa [Nat.blt_eq] using hc, hb⟩
          · cases hg
    have hb : d < big := Nat.lt_trans hd.1 hn
    have same : ∀ c, c = b → ∀ x, (t.set d (some (.bool c))).get x = t.get x := by
      intro c hc x
      subst hc
      rw [Tr.get_set _ _ _ hb]
      by_cases e : x = d
      · rw [if_pos e, e, hd.2]
      · rw [if_neg e]
    simp only [gdX, GX.sat] at h
    cases hbw : (b == want) with
    | true => exact ⟨_, same want (by cases b <;> cases want <;> simp_all), h.1 hbw⟩
    | false => exact ⟨_, same (!want) (by cases b <;> cases want <;> simp_all), h.2 hbw⟩
theorem stayX_sat {R : Tr Value → Heap → Prop} {F : List Nat} {H' H : Heap} {k : GX} : ∀ (l : List Nat), (stayX F H' H l k).sat ops R → (∀ b ∈ l, b ∈ F ∧ H'.get b = H.get b) ∧ k.sat ops R
  | [], h => ⟨fun b hb => (by cases hb), h⟩
  | b :: r, h => by
    simp only [stayX] at h
    cases hm : memB F b with
    | false => rw [hm] at h; exact h.elim
    | true =>
      rw [hm] at h
      simp only [cond_true] at h
      cases hp : propB (H'.get b = H.get b) with
      | false => exact (h.2 hp).elim
      | true =>
        obtain ⟨h1, h2⟩ := stayX_sat r (h.1 hp)
        refine ⟨fun c hc => ?_, h2⟩
        rcases List.mem_cons.1 hc with rfl | hc
        · exact ⟨(memB_iff _ _).1 hm, propB_iff.1 hp⟩
        · exact h1 c hc
theorem regX_trace {src : Src} (hC : C.Ok P) (hn : n < big) {R : Tr Value → Heap → Prop} : ∀ (l : List Oper) (k : Nat) (t : Tr Value) (H : Heap) (rs : List Rc), (∀ i, l[i]? = ops[k + i]?) → (regX C src ops n l t H rs).sat ops R →
    ∃ (T : Nat → Tr Value) (Hh : Nat → Heap) (Rr : Nat → Rc), (∀ x, (T k).get x = t.get x) ∧ Hh k = H ∧
      (∀ i o, i < l.length → ops[k + i]? = some o → StepOk P ops n (k + i) o (T (k + i)) (Hh (k + i)) (Rr (k + i)) (T (k + i + 1)) (Hh (k + i + 1))) ∧
      checkX ops (((List.range l.length).map fun i => Rr (k + i)).reverse ++ rs) = true ∧ R (T (k + l.length)) (Hh (k + l.length))
  | [], k, t, H, rs, _, h => ⟨fun _ => t, fun _ => H, fun _ => ⟨[], false, 0, 0, undef, H, false, mkNo, []⟩, fun _ => rfl, rfl, fun i o hi => by simp at hi, by simpa [regX, GX.sat] using h.1, h.2⟩
  | o :: l, k, t, H, rs, hl, h => by
    have hk : ops[k]? = some o := by simpa using (hl 0).symm
    simp only [regX] at h
    obtain ⟨t, ht', h⟩ := gdX_sat hn h
    suffices hs : ∃ (T : Nat → Tr Value) (Hh : Nat → Heap) (Rr : Nat → Rc), T k = t ∧ Hh k = H ∧
          (∀ i o', i < (o :: l).length → ops[k + i]? = some o' → StepOk P ops n (k + i) o' (T (k + i)) (Hh (k + i)) (Rr (k + i)) (T (k + i + 1)) (Hh (k + i + 1))) ∧
          checkX ops (((List.range (o :: l).length).map fun i => Rr (k + i)).reverse ++ rs) = true ∧ R (T (k + (o :: l).length)) (Hh (k + (o :: l).length)) by
      obtain ⟨T, Hh, Rr, e1, e⟩ := hs
      exact ⟨T, Hh, Rr, fun x => by rw [e1]; exact ht' x, e⟩
    obtain ⟨F0, hF0⟩ := addAll_eq (α := GX) (looksB t (o.looksAt ops)) []
    rw [hF0] at h
    -- what follows from a step
    have main : ∀ (F : List Nat) (rd : Bool) (mk : Mk) (v : Value) (K : Option Heap), okX ops n t H F rd mk o = true → (K.isSome = true → rd = true) →
        (∀ Kh, K = some Kh → F.length ≤ Kh.next ∧ H.next + Kh.next < big ∧ Kh.lock = 0) →
        (∀ (Q : Exit → Act → World → Prop) (ρ : Ren) (a : Act) (w : World), Rep ρ (smallH (gOf rd mk H) F) w → a.tmps.size = n → (∀ x ∈ o.looksAt ops, VR ρ (renV (posOf F) ((t.get x).getD undef)) (a.tmps.getD x undef)) → XGood P ops Q k o.dst ρ a w (asXR v K)) →
        (match K with | none => regX C src ops n l (putT t o.dst (renV (tau F H.next) v)) H (⟨F, false, H.next, 0, v, H, rd, mk, []⟩ :: rs) | some K => stayX F (mergeH H F K) H (src o t) (regX C src ops n l (putT t o.dst (renV (tau F H.next) v)) (mergeH H F K) (⟨F, true, H.next, K.next - F.length, v, K, rd, mk, src o t⟩ :: rs))).sat ops R →
        ∃ (T : Nat → Tr Value) (Hh : Nat → Heap) (Rr : Nat → Rc), T k = t ∧ Hh k = H ∧
          (∀ i o', i < (o :: l).length → ops[k + i]? = some o' → StepOk P ops n (k + i) o' (T (k + i)) (Hh (k + i)) (Rr (k + i)) (T (k + i + 1)) (Hh (k + i + 1))) ∧
          checkX ops (((List.range (o :: l).length).map fun i => Rr (k + i)).reverse ++ rs) = true ∧ R (T (k + (o :: l).length)) (Hh (k + (o :: l).length)) := by
      intro F rd mk v K hok hrd h2 hgood h1
      have fin : ∀ (r : Rc) (t' : Tr Value) (H' : Heap), (regX C src ops n l t' H' (r :: rs)).sat ops R → StepOk P ops n k o t H r t' H' →
          ∃ (T : Nat → Tr Value) (Hh : Nat → Heap) (Rr : Nat → Rc), T k = t ∧ Hh k = H ∧
            (∀ i o', i < (o :: l).length → ops[k + i]? = some o' → StepOk P ops n (k + i) o' (T (k + i)) (Hh (k + i)) (Rr (k + i)) (T (k + i + 1)) (Hh (k + i + 1))) ∧
            checkX ops (((List.range (o :: l).length).map fun i => Rr (k + i)).reverse ++ rs) = true ∧ R (T (k + (o :: l).length)) (Hh (k + (o :: l).length)) := by
        intro r t' H' hs hst
        obtain ⟨T, Hh, Rr, e1, e2, e3, e4, e5⟩ := regX_trace hC hn l (k + 1) _ _ _ (fun i => by have := hl (i + 1); simpa [Nat.add_assoc, Nat.add_comm 1 i] using this) hs
        refine ⟨fun i => if i = k then t else T i, fun i => if i = k then H else Hh i, fun i => if i = k then r else Rr i, by simp, by simp, ?_, ?_, ?_⟩
        · intro i o' hi ho'
          cases i with
          | zero =>
            simp only [Nat.add_zero] at ho' ⊢
            rw [hk] at ho'; cases ho'
            simp only [if_pos, if_neg (show ¬ k + 1 = k by omega)]
            rw [e2]; exact { hst with put := fun x => by rw [e1 x]; exact hst.put x }
          | succ i =>
            have := e3 i o' (by simpa using hi) (by rw [← ho']; congr 1; omega)
            simp only [if_neg (show ¬ k + (i + 1) = k by omega), if_neg (show ¬ k + (i + 1) + 1 = k by omega)]
            rw [show k + (i + 1) = k + 1 + i by omega]
            exact this
        · rw [show (o :: l).length = l.length + 1 from rfl, List.range_succ_eq_map, List.map_cons, List.reverse_cons, List.append_assoc]
          simp only [Nat.add_zero, if_pos, List.map_map, List.singleton_append]
          rw [show ((fun i => if k + i = k then r else Rr (k + i)) ∘ Nat.succ) = fun i => Rr (k + 1 + i) from funext fun i => by
            simp only [Function.comp]; rw [if_neg (by omega)]; congr 1; omega]
          exact e4
        · rw [show k + (o :: l).length = k + 1 + l.length by simp; omega]
          simp only [if_neg (show ¬ k + 1 + l.length = k by omega)]
          exact e5
      cases K with
      | none => exact fin _ _ _ h1 ⟨hok, (fun e => by cases e), rfl, fun _ => rfl, (fun b hb => by cases hb), fun _ => ⟨rfl, rfl⟩, (fun e => by cases e), hgood⟩
      | some Kh =>
        obtain ⟨hst, h1⟩ := stayX_sat _ h1
        exact fin _ _ _ h1 ⟨hok, fun _ => hrd rfl, rfl, fun _ => rfl, hst, (fun e => by cases e), fun _ => ⟨rfl, rfl, (h2 Kh rfl).1, (h2 Kh rfl).2.1, (h2 Kh rfl).2.2⟩, hgood⟩
    have good : ∀ (F : List Nat) (rd : Bool) (mk : Mk) (v : Value) (K : Option Heap), okX ops n t H F rd mk o = true →
        (∀ (Q : Exit → Act → World → Prop) (i : Nat) (dst : Option Tmp) (ρ : Ren) (a : Act) (w : World), XGood P ops Q i dst ρ a w (opX C ops t (gOf rd mk H) F o) → XGood P ops Q i dst ρ a w (asXR v K)) →
        (∀ (Q : Exit → Act → World → Prop) (ρ : Ren) (a : Act) (w : World), Rep ρ (smallH (gOf rd mk H) F) w → a.tmps.size = n → (∀ x ∈ o.looksAt ops, VR ρ (renV (posOf F) ((t.get x).getD undef)) (a.tmps.getD x undef)) → XGood P ops Q k o.dst ρ a w (asXR v K)) := by
      intro F rd mk v K hok h3 Q ρ a w hr hsz hx
      have hok' := hok
      simp only [okX, Bool.and_eq_true] at hok'
      obtain ⟨o1, o2, o3, o4, o5, o6⟩ := hok'
      have hlk : ∀ x ∈ o.looksAt ops, x < big := by
        intro x hx
        have := List.all_eq_true.1 o4 x hx
        rw [Bool.and_eq_true] at this
        have h4 : x < n := by simpa [Nat.blt_eq] using this.1
        exact Nat.lt_trans h4 hn
      refine h3 Q k o.dst ρ a w ?_
      unfold opX
      refine op_good hC hk (notSel_spec o6) hr hn hsz (fun x hxl => ?_) (fun x hxl => ?_)
      · rw [smallT_get _ _ _ hlk, if_pos hxl]; exact hx x hxl
      · rw [smallT_get _ _ _ hlk, if_neg hxl]
    cases hval : (valOp o.op && !(byN t o)) with
    | true =>
      rw [hval] at h; simp only [cond_true] at h
      cases hok : okX ops n t H F0 false mkNo o with
      | false => rw [hok] at h; exact h.elim
      | true =>
        rw [hok] at h
        simp only [cond_true] at h
        obtain ⟨v, K, h1, h2, h3⟩ := bindX_sat (P := P) _ h
        cases K with
        | some Kh => exact h1.elim
        | none => exact main F0 false mkNo v none hok (fun e => by cases e) h2 (good F0 false mkNo v none hok h3) h1
    | false =>
      rw [hval] at h; simp only [cond_false] at h
      obtain ⟨F, hF⟩ := closeF_eq (α := GX) (winM C.toEnv t H o) H 30 0 F0
      rw [hF] at h
      have hfull : ∀ (x : GX), x = (bif okX ops n t H F true (winM C.toEnv t H o) o then
          bindX F H (fun v K => match K with
            | none => regX C src ops n l (putT t o.dst (renV (tau F H.next) v)) H (⟨F, false, H.next, 0, v, H, true, winM C.toEnv t H o, []⟩ :: rs)
            | some K => stayX F (mergeH H F K) H (src o t) (regX C src ops n l (putT t o.dst (renV (tau F H.next) v)) (mergeH H F K) (⟨F, true, H.next, K.next - F.length, v, K, true, winM C.toEnv t H o, src o t⟩ :: rs))) (opX C ops t (gOf true (winM C.toEnv t H o) H) F o)
          else .no) → x.sat ops R → ∃ (T : Nat → Tr Value) (Hh : Nat → Heap) (Rr : Nat → Rc), T k = t ∧ Hh k = H ∧
          (∀ i o', i < (o :: l).length → ops[k + i]? = some o' → StepOk P ops n (k + i) o' (T (k + i)) (Hh (k + i)) (Rr (k + i)) (T (k + i + 1)) (Hh (k + i + 1))) ∧
          checkX ops (((List.range (o :: l).length).map fun i => Rr (k + i)).reverse ++ rs) = true ∧ R (T (k + (o :: l).length)) (Hh (k + (o :: l).length)) := by
        intro x hx h
        subst hx
        cases hok : okX ops n t H F true (winM C.toEnv t H o) o with
        | false => rw [hok] at h; exact h.elim
        | true =>
          rw [hok] at h
          simp only [cond_true] at h
          obtain ⟨v, K, h1, h2, h3⟩ := bindX_sat (P := P) _ h
          refine main F true _ v K hok (fun _ => rfl) h2 (good F true _ v K hok h3) ?_
          cases K <;> exact h1
      cases hld : (isLoad o.op && okX ops n t H F0 true mkNo o) with
      | false => rw [hld] at h; exact hfull _ rfl h
      | true =>
        rw [hld] at h
        simp only [cond_true] at h
        rw [Bool.and_eq_true] at hld
        rcases bindM_sat (P := P) _ h with h1 | ⟨v, h1, h3⟩
        · exact hfull _ rfl h1
        · exact main F0 true mkNo v none hld.2 (fun e => by cases e) (fun _ e => nomatch e) (good F0 true mkNo v none hld.2 h3) h1
theorem against_spec {ok : Oper} {rk : Rc} {mk : Nat} {f : Nat → Oper × Rc} : ∀ (j : Nat), against ops ok rk mk j ((List.range j).reverse.map f) = true → ∀ i, i < j → confl ops (f i).1 ok (f i).2 rk = true → Nat.testBit mk i = true
  | 0, _, i, hi => by omega
  | j + 1, h, i, hi => by
    rw [List.range_succ, List.reverse_append, List.reverse_singleton, List.singleton_append, List.map_cons] at h
    simp only [against, Bool.and_eq_true, Bool.or_eq_true, Bool.not_eq_true'] at h
    intro hc
    by_cases e : i = j
    · subst e
      rcases h.1 with h1 | h1
      · rw [h1] at hc; cases hc
      · exact h1
    · exact against_spec j h.2 i (by omega) hc
theorem pairsB_spec {ms : List Nat} {f : Nat → Oper × Rc} : ∀ (k : Nat), pairsB ops ms k ((List.range k).reverse.map f) = true → ∀ i, i < k →
    (∀ j, j < i → confl ops (f j).1 (f i).1 (f j).2 (f i).2 = true → Nat.testBit (ms.getD i 0) j = true) ∧ (∀ e ∈ (f i).1.after, Region.binds .any e = true → e.on < i)
  | 0, _, i, hi => by omega
  | k + 1, h, i, hi => by
    rw [List.range_succ, List.reverse_append, List.reverse_singleton, List.singleton_append, List.map_cons] at h
    simp only [pairsB, Bool.and_eq_true] at h
    by_cases e : i = k
    · subst e
      refine ⟨fun j hj hc => against_spec i h.1 j hj hc, fun e he hb => ?_⟩
      have := List.all_eq_true.1 h.2.1 e (by simpa using he)
      rw [hb] at this
      simpa [Nat.blt_eq] using this
    · exact pairsB_spec k h.2.2 i (by omega)
theorem testBit_maskF {ms : List Nat} {j : Nat} : ∀ (es : List Edge), Nat.testBit (maskF ms es) j = true → ∃ e ∈ es, Region.binds .any e = true ∧ (e.on = j ∨ Nat.testBit (ms.getD e.on 0) j = true)
  | [], h => by simp [maskF] at h
  | e :: r, h => by
    simp only [maskF] at h
    cases hb : Region.binds .any e with
    | false =>
      rw [hb] at h
      obtain ⟨e', h1, h2⟩ := testBit_maskF r h
      exact ⟨e', by simp [h1], h2⟩
    | true =>
      rw [hb] at h
      simp only [cond_true] at h
      have h' : Nat.testBit (((1 <<< e.on) ||| ms.getD e.on 0) ||| maskF ms r) j = true := h
      rw [Nat.testBit_or, Nat.testBit_or, Bool.or_eq_true, Bool.or_eq_true] at h'
      rcases h' with (h1 | h1) | h1
      · refine ⟨e, by simp, hb, .inl ?_⟩
        rw [Nat.one_shiftLeft, Nat.testBit_two_pow] at h1
        simpa using h1
      · exact ⟨e, by simp, hb, .inr h1⟩
      · obtain ⟨e', h2, h3⟩ := testBit_maskF r h1
        exact ⟨e', by simp [h2], h3⟩
theorem masks_spec : ∀ (l : List Oper) (ms : List Nat), (∀ i, i < ms.length → (masks l ms)[i]? = ms[i]?) ∧
    ∀ i o, l[i]? = some o → ∃ pre : List Nat, pre.length = ms.length + i ∧ (∀ j, j < pre.length → (masks l ms)[j]? = pre[j]?) ∧ (masks l ms)[ms.length + i]? = some (maskF pre o.after.toList)
  | [], ms => ⟨fun i _ => rfl, fun i o h => by simp at h⟩
  | o :: l, ms => by
    have hm : masks (o :: l) ms = masks l (ms ++ [maskF ms o.after.toList]) := by simp only [masks]; rw [forceN_eq]
    obtain ⟨h1, h2⟩ := masks_spec l (ms ++ [maskF ms o.after.toList])
    rw [hm]
    have hpre : ∀ i, i < ms.length → (masks l (ms ++ [maskF ms o.after.toList]))[i]? = ms[i]? := fun i hi => by
      rw [h1 i (by simp; omega), List.getElem?_append_left hi]
    refine ⟨hpre, fun i o' ho => ?_⟩
    cases i with
    | zero =>
      simp at ho; subst ho
      refine ⟨ms, by simp, hpre, ?_⟩
      rw [Nat.add_zero, h1 ms.length (by simp)]
      simp
    | succ i =>
      obtain ⟨pre, g1, g2, g3⟩ := h2 i o' (by simpa using ho)
      refine ⟨pre, by rw [g1]; simp; omega, g2, ?_⟩
      rw [← g3]; congr 1; simp; omega
theorem mask_waits {D : Nat → Bool} (hdown : ∀ k o, ops[k]? = some o → D k = true → ∀ e ∈ o.after, Region.binds .any e = true → D e.on = true) (hlt : ∀ k o, ops[k]? = some o → ∀ e ∈ o.after, Region.binds .any e = true → e.on < k) :
    ∀ (k : Nat) (o : Oper) (j : Nat), ops[k]? = some o → (∀ e ∈ o.after, Region.binds .any e = true → D e.on = true) → Nat.testBit ((masks ops.toList []).getD k 0) j = true → D j = true := by
  intro k
  induction k using Nat.strongRecOn with
  | _ k ih =>
    intro o j ho hed hb
    obtain ⟨pre, g1, g2, g3⟩ := (masks_spec ops.toList []).2 k o (by simpa using ho)
    simp only [List.length_nil, Nat.zero_add] at g1 g3
    rw [List.getD_eq_getElem?_getD, g3] at hb
    simp only [Option.getD_some] at hb
    obtain ⟨e, he, hbi, hor⟩ := testBit_maskF _ hb
    have he' : e ∈ o.after := by simpa using he
    have hek := hlt k o ho e he' hbi
    rcases hor with rfl | hor
    · exact hed e he' hbi
    · have hDe := hed e he' hbi
      have hsz : k < ops.size := (Array.getElem?_eq_some_iff.1 ho).1
      have hoe : ops[e.on]? = some (ops[e.on]'(by omega)) := Array.getElem?_eq_getElem (by omega)
      refine ih e.on hek _ j hoe (hdown _ _ hoe hDe) ?_
      rw [List.getD_eq_getElem?_getD, g2 e.on (by omega), ← List.getD_eq_getElem?_getD]
      exact hor
end
end Go.Ly
namespace Go.Ly
open Go.RowKit
section
variable {α : Type} {base : α} {wr : Nat → Bool} {val : Nat → α} {D D' : Nat → Bool}
theorem LW_none : ∀ {n : Nat}, (∀ j, j < n → wr j = true → D j = false) → LW base wr val D n = base
  | 0, _ => rfl
  | n + 1, h => by
    simp only [LW]
    rw [LW_none (n := n) (fun j hj hw => h j (by omega) hw)]
    cases hw : wr n with
    | false => simp
    | true => rw [h n (by omega) hw]; simp
theorem LW_step {st : Nat → α} (h0 : st 0 = base) (hs : ∀ k, wr k = true → st (k + 1) = val k) (hn : ∀ k, wr k = false → st (k + 1) = st k) : ∀ k, LW base wr val (fun _ => true) k = st k
  | 0 => h0.symm
  | k + 1 => by
    simp only [LW]
    cases hw : wr k with
    | true => simp [hs k hw]
    | false => simp [hn k hw, LW_step h0 hs hn k]
end
def cnt (D : Nat → Bool) : Nat → Nat
  | 0 => 0
  | n + 1 => cnt D n + (bif D n then 0 else 1)
theorem cnt_congr {D D' : Nat → Bool} : ∀ {n : Nat}, (∀ j, j < n → D j = D' j) → cnt D n = cnt D' n
  | 0, _ => rfl
  | n + 1, h => by simp only [cnt]; rw [cnt_congr (n := n) (fun j hj => h j (by omega)), h n (by omega)]
theorem cnt_ins {D D' : Nat → Bool} {k : Nat} (hk : D k = false) (hk' : D' k = true) (ho : ∀ j, j ≠ k → D' j = D j) : ∀ {n : Nat}, k < n → cnt D' n + 1 = cnt D n
  | 0, h => by omega
  | n + 1, h => by
    simp only [cnt]
    by_cases e : n = k
    · subst e
      rw [hk, hk', cnt_congr (n := n) (fun j hj => ho j (by omega))]; rfl
    · have := cnt_ins hk hk' ho (n := n) (by omega)
      rw [ho n e]; omega
theorem cnt_zero {D : Nat → Bool} : ∀ {n : Nat}, cnt D n = 0 → ∀ j, j < n → D j = true
  | 0, _, j, hj => by omega
  | n + 1, h, j, hj => by
    simp only [cnt] at h
    by_cases e : j = n
    · subst e
      cases hD : D j with
      | true => rfl
      | false => rw [hD] at h; simp at h
    · exact cnt_zero (n := n) (by omega) j (by omega)
structure Trace (P : Program) (ops : Array Oper) (n : Nat) (T : Nat → Tr Value) (Hh : Nat → Heap) (Rr : Nat → Rc) : Prop where
  step : ∀ k o, ops[k]? = some o → StepOk P ops n k o (T k) (Hh k) (Rr k) (T (k + 1)) (Hh (k + 1))
  far : ∀ k, ops.size ≤ k → (Rr k).wr = false ∧ T (k + 1) = T k ∧ Hh (k + 1) = Hh k
  confl : ∀ j k oj ok, j < k → ops[j]? = some oj → ops[k]? = some ok → confl ops oj ok (Rr j) (Rr k) = true → Nat.testBit ((masks ops.toList []).getD k 0) j = true
  edge : ∀ k o, ops[k]? = some o → ∀ e ∈ o.after, Region.binds .any e = true → e.on < k
  small : (Hh 0).next < big
  ltn : ∀ i o, (Hh 0).get i = some o → i < (Hh 0).next
  sn : n < big
section
variable {P : Program} {ops : Array Oper} {n : Nat} {T : Nat → Tr Value} {Hh : Nat → Heap} {Rr : Nat → Rc}
def newB (r : Rc) (b : Nat) : Bool := Nat.ble r.n0 b && Nat.blt b (r.n0 + r.m)
def wrB (Rr : Nat → Rc) (k b : Nat) : Bool := (Rr k).wr && ((memB (Rr k).F b && !(memB (Rr k).R b)) || newB (Rr k) b)
def wrT (ops : Array Oper) (k x : Nat) : Bool := decide ((ops[k]?).bind (·.dst) = some x)
def GD (ops : Array Oper) (Hh : Nat → Heap) (Rr : Nat → Rc) (D : Nat → Bool) (b : Nat) : Option LO := LW ((Hh 0).get b) (fun k => wrB Rr k b) (fun k => (Hh (k + 1)).get b) D ops.size
def TD (ops : Array Oper) (T : Nat → Tr Value) (D : Nat → Bool) (x : Nat) : Option Value := LW ((T 0).get x) (fun k => wrT ops k x) (fun k => (T (k + 1)).get x) D ops.size
theorem newB_iff {r : Rc} {b : Nat} : newB r b = true ↔ r.n0 ≤ b ∧ b < r.n0 + r.m := by
  unfold newB; rw [Bool.and_eq_true, Nat.ble_eq, Nat.blt_eq]
theorem wrB_iff {k b : Nat} : wrB Rr k b = true ↔ (Rr k).wr = true ∧ ((b ∈ (Rr k).F ∧ memB (Rr k).R b = false) ∨ newB (Rr k) b = true) := by
  unfold wrB; rw [Bool.and_eq_true, Bool.or_eq_true, Bool.and_eq_true, memB_iff, Bool.not_eq_true']
theorem lt_of_get {k : Nat} {o : Oper} (h : ops[k]? = some o) : k < ops.size := (Array.getElem?_eq_some_iff.1 h).1
theorem get_of_lt {k : Nat} (h : k < ops.size) : ops[k]? = some (ops[k]) := Array.getElem?_eq_getElem h
structure OkX (ops : Array Oper) (n : Nat) (t : Tr Value) (H : Heap) (F : List Nat) (rd : Bool) (mk : Mk) (o : Oper) : Prop where
  nd : F.Nodup
  len : F.length < 1000000
  lt : rd = true → ∀ b ∈ F, b < H.next
  full : rd = true → ∀ b ∈ F, ∃ x, gOf true mk H b = some x ∧ colOB F x = true
  look : ∀ x ∈ o.looksAt ops, x < n ∧ blks (memB F) ((t.get x).getD undef) = true
  dst : dstOk n o.dst = true
theorem okX_spec {t : Tr Value} {H : Heap} {F : List Nat} {rd : Bool} {mk : Mk} {o : Oper} (h : okX ops n t H F rd mk o = true) : OkX ops n t H F rd mk o := by
  unfold okX at h
  simp only [Bool.and_eq_true] at h
  obtain ⟨h1, h2, h3, h4, h5, _⟩ := h
  have h3' := List.all_eq_true.1 h3
  have h4' := List.all_eq_true.1 h4
  refine ⟨nodupB_iff _ h1, by simpa [Nat.blt_eq] using h2, fun hrd b hb => ?_, fun hrd b hb => ?_, fun x hx => ?_, h5⟩
  · have := h3' b hb; rw [hrd] at this; simp only [Bool.not_true, Bool.false_or] at this; rw [Bool.and_eq_true] at this; simpa [Nat.blt_eq] using this.1
  · have := h3' b hb; rw [hrd] at this; simp only [Bool.not_true, Bool.false_or] at this; rw [Bool.and_eq_true] at this
    cases hg : gOf true mk H b with
    | none => rw [hg] at this; simp at this
    | some x => rw [hg] at this; exact ⟨x, rfl, this.2⟩
  · have := h4' x hx; rw [Bool.and_eq_true] at this; exact ⟨by simpa [Nat.blt_eq] using this.1, this.2⟩
theorem Trace.ok (h : Trace P ops n T Hh Rr) {k : Nat} {o : Oper} (hk : ops[k]? = some o) : OkX ops n (T k) (Hh k) (Rr k).F (Rr k).rd (Rr k).ms o := okX_spec (h.step k o hk).ok
theorem Trace.next (h : Trace P ops n T Hh Rr) (k : Nat) : (Hh (k + 1)).next = (Hh k).next + (bif (Rr k).wr then (Rr k).m else 0) := by
  rcases Nat.lt_or_ge k ops.size with hk | hk
  · have hs := h.step k _ (get_of_lt hk)
    cases hw : (Rr k).wr with
    | false => rw [(hs.pure hw).1]; rfl
    | true => rw [(hs.mem hw).1, (hs.mem hw).2.1]; rfl
  · have := h.far k hk; rw [this.2.2, this.1]; rfl
theorem Trace.mono (h : Trace P ops n T Hh Rr) {j k : Nat} (hjk : j ≤ k) : (Hh j).next ≤ (Hh k).next := by
  induction k with
  | zero => obtain rfl : j = 0 := by omega
            exact Nat.le_refl _
  | succ k ih =>
    rcases Nat.lt_or_ge k j with h1 | h1
    · obtain rfl : j = k + 1 := by omega
      exact Nat.le_refl _
    · have := ih h1; have := h.next k; omega
theorem Trace.new (h : Trace P ops n T Hh Rr) {k b : Nat} {o : Oper} (hk : ops[k]? = some o) (hw : (Rr k).wr = true) (hb : newB (Rr k) b = true) : (Hh k).next ≤ b ∧ b < (Hh (k + 1)).next := by
  rw [newB_iff] at hb
  have hn := h.next k
  rw [hw] at hn; simp only [cond_true] at hn
  have := (h.step k o hk).n0
  omega
theorem Trace.nsmall (h : Trace P ops n T Hh Rr) : ∀ k, (Hh k).next < big
  | 0 => h.small
  | k + 1 => by
    rcases Nat.lt_or_ge k ops.size with hk | hk
    · have hs := h.step k _ (get_of_lt hk)
      cases hw : (Rr k).wr with
      | false => rw [(hs.pure hw).1]; exact h.nsmall k
      | true =>
        have h1 := h.next k; rw [hw] at h1; simp only [cond_true] at h1
        have h2 := hs.mem hw
        omega
    · rw [(h.far k hk).2.2]; exact h.nsmall k
theorem Trace.merged (h : Trace P ops n T Hh Rr) {k : Nat} {o : Oper} (hk : ops[k]? = some o) (hw : (Rr k).wr = true) :
    (Rr k).F.length + (Rr k).m = (Rr k).H.next ∧ (∀ i, i < (Rr k).H.next → (wrB Rr k (tau (Rr k).F (Hh k).next i) = true ∨ (memB (Rr k).R (tau (Rr k).F (Hh k).next i) = true)) ∧ (Hh (k + 1)).get (tau (Rr k).F (Hh k).next i) = ((Rr k).H.get i).map (renO (tau (Rr k).F (Hh k).next))) ∧
    (∀ b, (∀ i, i < (Rr k).H.next → tau (Rr k).F (Hh k).next i ≠ b) → (Hh (k + 1)).get b = (Hh k).get b) ∧ (∀ b, wrB Rr k b = true → ∃ i, i < (Rr k).H.next ∧ tau (Rr k).F (Hh k).next i = b) := by
  have hs := h.step k o hk
  obtain ⟨hm, hmm, hle, hbig, _⟩ := hs.mem hw
  have hok := h.ok hk
  have hrd := hs.rd hw
  have hn0 := hs.n0
  have hsum : (Rr k).F.length + (Rr k).m = (Rr k).H.next := by omega
  have tinj := tau_inj (n0 := (Hh k).next) (m := (Rr k).m) hok.nd (fun b hb => .inl (hok.lt hrd b hb))
  have tb : ∀ i, i < (Rr k).H.next → tau (Rr k).F (Hh k).next i < big := by
    intro i hi
    rcases Nat.lt_or_ge i (Rr k).F.length with h1 | h1
    · have := hok.lt hrd _ (List.mem_of_getElem? (tau_lt (n0 := (Hh k).next) h1)); omega
    · rw [tau_ge h1]; omega
  obtain ⟨g1, g2⟩ := mergeM_get (τ := tau (Rr k).F (Hh k).next) (K := (Rr k).H) (m := (Hh k).m) (Rr k).H.next tb (fun i j hi hj => tinj i j (by omega) (by omega))
  refine ⟨hsum, fun i hi => ⟨?_, ?_⟩, fun b hb => ?_, fun b hb => ?_⟩
  · rw [wrB_iff]
    rcases Nat.lt_or_ge i (Rr k).F.length with h1 | h1
    · cases hR : memB (Rr k).R (tau (Rr k).F (Hh k).next i) with
      | true => exact .inr rfl
      | false => exact .inl ⟨hw, .inl ⟨List.mem_of_getElem? (tau_lt h1), rfl⟩⟩
    · rw [newB_iff, tau_ge h1]; exact .inl ⟨hw, .inr (by omega)⟩
  · rw [hm]; exact g1 i hi
  · rw [hm]; exact g2 b hb
  · rw [wrB_iff] at hb
    rcases hb.2 with h1 | h1
    · obtain ⟨i, hi, e⟩ := List.getElem_of_mem h1.1
      refine ⟨i, by omega, ?_⟩
      have := tau_lt (n0 := (Hh k).next) hi
      rw [List.getElem?_eq_getElem hi, e] at this
      exact (Option.some.inj this).symm
    · rw [newB_iff] at h1
      exact ⟨(Rr k).F.length + (b - (Hh k).next), by omega, by rw [tau_ge (by omega)]; omega⟩
theorem Trace.same (h : Trace P ops n T Hh Rr) {k b : Nat} (hw : wrB Rr k b = false) : (Hh (k + 1)).get b = (Hh k).get b := by
  rcases Nat.lt_or_ge k ops.size with hk | hk
  · cases hr : (Rr k).wr with
    | false => rw [((h.step k _ (get_of_lt hk)).pure hr).1]
    | true =>
      obtain ⟨_, h1, h2, _⟩ := h.merged (get_of_lt hk) hr
      cases hR : memB (Rr k).R b with
      | true => exact ((h.step k _ (get_of_lt hk)).stay b ((memB_iff _ _).1 hR)).2
      | false =>
      refine h2 b (fun i hi e => ?_)
      have := (h1 i hi).1
      rw [e, hw, hR] at this; rcases this with this | this <;> cases this
  · rw [(h.far k hk).2.2]
theorem Trace.sameT (h : Trace P ops n T Hh Rr) {k x : Nat} (hw : wrT ops k x = false) : (T (k + 1)).get x = (T k).get x := by
  rcases Nat.lt_or_ge k ops.size with hk | hk
  · have hs := h.step k _ (get_of_lt hk)
    have hok := h.ok (get_of_lt hk)
    rw [hs.put x]
    unfold wrT at hw
    rw [get_of_lt hk] at hw
    simp only [Option.bind_some, decide_eq_false_iff_not] at hw
    have hd := hok.dst
    cases hdd : (ops[k]).dst with
    | none => rfl
    | some d =>
      rw [hdd] at hw hd
      simp only [putT]
      rw [Tr.get_set _ _ _ (by have := h.sn; simp [dstOk, Nat.blt_eq] at hd; omega), if_neg (fun e => hw (by rw [e]))]
  · rw [(h.far k hk).2.1]
theorem Trace.ltn' (h : Trace P ops n T Hh Rr) : ∀ (k i : Nat) (o : LO), (Hh k).get i = some o → i < (Hh k).next
  | 0, i, o, hi => h.ltn i o hi
  | k + 1, i, o, hi => by
    cases hw : wrB Rr k i with
    | false =>
      rw [h.same hw] at hi
      exact Nat.lt_of_lt_of_le (h.ltn' k i o hi) (h.mono (by omega))
    | true =>
      rcases Nat.lt_or_ge k ops.size with hk | hk
      · rw [wrB_iff] at hw
        rcases hw.2 with h1 | h1
        · exact Nat.lt_of_lt_of_le ((h.ok (get_of_lt hk)).lt ((h.step k _ (get_of_lt hk)).rd hw.1) i h1.1) (h.mono (by omega))
        · exact (h.new (get_of_lt hk) hw.1 h1).2
      · rw [(h.far k hk).2.2] at hi ⊢; exact h.ltn' k i o hi
theorem Trace.upTo (h : Trace P ops n T Hh Rr) {k : Nat} (hk : k ≤ ops.size) (b : Nat) : GD ops Hh Rr (fun j => decide (j < k)) b = (Hh k).get b := by
  unfold GD
  rw [LW_cut k hk]
  exact LW_step (st := fun k => (Hh k).get b) rfl (fun _ _ => rfl) (fun k hw => h.same hw) k
theorem Trace.upToT (h : Trace P ops n T Hh Rr) {k : Nat} (hk : k ≤ ops.size) (x : Nat) : TD ops T (fun j => decide (j < k)) x = (T k).get x := by
  unfold TD
  rw [LW_cut k hk]
  exact LW_step (st := fun k => (T k).get x) rfl (fun _ _ => rfl) (fun k hw => h.sameT hw) k
structure Nxt (ops : Array Oper) (D : Nat → Bool) (k : Nat) (o : Oper) : Prop where
  get : ops[k]? = some o
  no : D k = false
  down : ∀ k o, ops[k]? = some o → D k = true → ∀ e ∈ o.after, Region.binds .any e = true → D e.on = true
  ready : ∀ e ∈ o.after, Region.binds .any e = true → D e.on = true
section
variable {D : Nat → Bool} {k : Nat} {o : Oper}
theorem Nxt.before (h : Trace P ops n T Hh Rr) (hx : Nxt ops D k o) {j : Nat} {oj : Oper} (hj : ops[j]? = some oj) (hlt : j < k) (hc : Go.Ly.confl ops oj o (Rr j) (Rr k) = true) : D j = true :=
  mask_waits hx.down h.edge k o j hx.get hx.ready (h.confl j k oj o hlt hj hx.get hc)
theorem Nxt.behind (h : Trace P ops n T Hh Rr) (hx : Nxt ops D k o) {j : Nat} {oj : Oper} (hj : ops[j]? = some oj) (hlt : k < j) (hc : Go.Ly.confl ops o oj (Rr k) (Rr j) = true) : D j = false := by
  cases hD : D j with
  | false => rfl
  | true =>
    have := mask_waits hx.down h.edge j oj k hj (hx.down j oj hj hD) (h.confl k j o oj hlt hx.get hj hc)
    rw [hx.no] at this; cases this
theorem inter_of {rj rk : Rc} {b : Nat} (hb : b ∈ rk.F) (h : (b ∈ rj.F ∧ ((rj.wr = true ∧ memB rj.R b = false) ∨ (rk.wr = true ∧ memB rk.R b = false))) ∨ newB rj b = true) : inter rj rk = true := by
  unfold inter
  refine List.any_eq_true.2 ⟨b, hb, ?_⟩
  rw [Bool.or_eq_true]
  rcases h with ⟨h, h2⟩ | h
  · refine .inl ?_
    rw [(memB_iff _ _).2 h]
    rcases h2 with ⟨h3, h4⟩ | ⟨h3, h4⟩
    · rw [h3, h4]; rfl
    · rw [h3, h4]; simp
  · exact .inr h
theorem confl_inter {oj ok : Oper} {rj rk : Rc} (hw : rj.wr = true ∨ rk.wr = true) (h1 : rj.rd = true) (h2 : rk.rd = true) (hi : inter rj rk = true) : Go.Ly.confl ops oj ok rj rk = true := by
  unfold Go.Ly.confl
  rcases hw with h | h <;> simp [h, hi, h1, h2]
theorem confl_apart {oj ok : Oper} {rj rk : Rc} (h : oj.apart ops ok = false) : Go.Ly.confl ops oj ok rj rk = true := by
  unfold Go.Ly.confl; simp [h]
theorem Nxt.later (h : Trace P ops n T Hh Rr) (hx : Nxt ops D k o) {j b : Nat} (hrd : (Rr k).rd = true) (hlt : k < j) (hjs : j < ops.size) (hb : b ∈ (Rr k).F ∨ ((Rr k).wr = true ∧ newB (Rr k) b = true)) (hw : wrB Rr j b = true) : D j = false := by
  rw [wrB_iff] at hw
  have hj := get_of_lt hjs
  have hbj : b ∈ (Rr j).F ∧ memB (Rr j).R b = false := by
    rcases hw.2 with h1 | h1
    · exact h1
    · exfalso
      have h2 := (h.new hj hw.1 h1).1
      have h3 := h.mono (j := k + 1) (k := j) (by omega)
      have h5 := h.mono (j := k) (k := k + 1) (by omega)
      rcases hb with h4 | h4
      · have := (h.ok hx.get).lt hrd b h4; omega
      · have := (h.new hx.get h4.1 h4.2).2; omega
  refine hx.behind h hj hlt (confl_inter (.inr hw.1) hrd ((h.step j _ hj).rd hw.1) (inter_of hbj.1 ?_))
  rcases hb with h4 | h4
  · exact .inl ⟨h4, .inr ⟨hw.1, hbj.2⟩⟩
  · exact .inr h4.2
theorem Nxt.blocks (h : Trace P ops n T Hh Rr) (hx : Nxt ops D k o) (hrd : (Rr k).rd = true) {b : Nat} (hb : b ∈ (Rr k).F) : GD ops Hh Rr D b = (Hh k).get b := by
  rw [← h.upTo (Nat.le_of_lt (lt_of_get hx.get)) b]
  unfold GD
  refine LW_congr (fun j hj hw => ?_)
  rcases Nat.lt_trichotomy j k with h1 | h1 | h1
  · rw [decide_eq_true h1]
    rw [wrB_iff] at hw
    exact hx.before h (get_of_lt hj) h1 (confl_inter (.inl hw.1) ((h.step j _ (get_of_lt hj)).rd hw.1) hrd (inter_of hb (hw.2.imp (fun h2 => ⟨h2.1, .inl ⟨hw.1, h2.2⟩⟩) id)))
  · subst h1; rw [hx.no]; simp
  · rw [hx.later h hrd h1 hj (.inl hb) hw]; simp; omega
theorem Nxt.tmps (h : Trace P ops n T Hh Rr) (hx : Nxt ops D k o) {x : Tmp} (hb : x ∈ o.looksAt ops) : TD ops T D x = (T k).get x := by
  rw [← h.upToT (Nat.le_of_lt (lt_of_get hx.get)) x]
  unfold TD
  refine LW_congr (fun j hj hw => ?_)
  simp only [wrT, get_of_lt hj, Option.bind_some, decide_eq_true_eq] at hw
  rcases Nat.lt_trichotomy j k with h1 | h1 | h1
  · rw [decide_eq_true h1]
    refine hx.before h (get_of_lt hj) h1 (confl_apart ?_)
    cases hap : (ops[j]).apart ops o with
    | false => rfl
    | true => exact absurd hb ((Oper.apart_spec hap).1 x hw)
  · subst h1; rw [hx.no]; simp
  · rw [show decide (j < k) = false by simp; omega]
    refine hx.behind h (get_of_lt hj) h1 (confl_apart ?_)
    cases hap : o.apart ops (ops[j]) with
    | false => rfl
    | true => exact absurd hb ((Oper.apart_spec hap).2.2 x hw)
def ins (D : Nat → Bool) (k : Nat) : Nat → Bool := fun j => D j || decide (j = k)
theorem Trace.between (h : Trace P ops n T Hh Rr) {i : Nat} (h0 : ¬ i < (Hh 0).next) : ∀ k, i < (Hh k).next → ∃ j, j < k ∧ (Hh j).next ≤ i ∧ i < (Hh (j + 1)).next
  | 0, hk => absurd hk h0
  | k + 1, hk => by
    by_cases e : i < (Hh k).next
    · obtain ⟨j, h1, h2⟩ := h.between h0 k e
      exact ⟨j, by omega, h2⟩
    · exact ⟨k, by omega, by omega, hk⟩
theorem Nxt.maker (h : Trace P ops n T Hh Rr) (hx : Nxt ops D k o) (hrd : (Rr k).rd = true) {i : Nat} (hi : i ∈ (Rr k).F) (h0 : ¬ i < (Hh 0).next) : ∃ q, q < ops.size ∧ ins D k q = true ∧ (Rr q).wr = true ∧ newB (Rr q) i = true := by
  obtain ⟨j, h1, h2, h3⟩ := h.between h0 k ((h.ok hx.get).lt hrd i hi)
  have hjs : j < ops.size := by have := lt_of_get hx.get; omega
  have hn := h.next j
  cases hw : (Rr j).wr with
  | false => rw [hw] at hn; simp only [cond_false] at hn; omega
  | true =>
    rw [hw] at hn; simp only [cond_true] at hn
    have hnew : newB (Rr j) i = true := by
      rw [newB_iff, (h.step j _ (get_of_lt hjs)).n0]; omega
    refine ⟨j, hjs, ?_, hw, hnew⟩
    have := hx.before h (get_of_lt hjs) h1 (confl_inter (.inl hw) ((h.step j _ (get_of_lt hjs)).rd hw) hrd (inter_of hi (.inr hnew)))
    simp [ins, this]
theorem Nxt.insB (h : Trace P ops n T Hh Rr) (hx : Nxt ops D k o) (b : Nat) : GD ops Hh Rr (ins D k) b = if wrB Rr k b = true then (Hh (k + 1)).get b else GD ops Hh Rr D b := by
  by_cases hw : wrB Rr k b = true
  · rw [if_pos hw]
    unfold GD ins
    rw [LW_ins hx.no (fun j h1 h2 hj => ?_)]
    · simp [lt_of_get hx.get, hw]
    · refine hx.later h ((h.step k o hx.get).rd ((wrB_iff.1 hw).1)) h1 h2 ?_ hj
      rw [wrB_iff] at hw
      rcases hw.2 with h3 | h3
      · exact .inl h3.1
      · exact .inr ⟨hw.1, h3⟩
  · rw [if_neg hw]
    unfold GD ins
    refine LW_congr (fun j hj hwj => ?_)
    by_cases e : j = k
    · subst e; exact absurd hwj hw
    · simp [e]
theorem Nxt.insT (h : Trace P ops n T Hh Rr) (hx : Nxt ops D k o) (x : Tmp) : TD ops T (ins D k) x = if o.dst = some x then (T (k + 1)).get x else TD ops T D x := by
  have hwk : wrT ops k x = decide (o.dst = some x) := by unfold wrT; rw [hx.get]; rfl
  by_cases hw : o.dst = some x
  · rw [if_pos hw]
    unfold TD ins
    rw [LW_ins hx.no (fun j h1 h2 hj => ?_)]
    · simp [lt_of_get hx.get, hwk, hw]
    · simp only [wrT, get_of_lt h2, Option.bind_some, decide_eq_true_eq] at hj
      refine hx.behind h (get_of_lt h2) h1 (confl_apart ?_)
      cases hap : o.apart ops (ops[j]) with
      | false => rfl
      | true => exact absurd hj ((Oper.apart_spec hap).2.1 x hw)
  · rw [if_neg hw]
    unfold TD ins
    refine LW_congr (fun j hj hwj => ?_)
    by_cases e : j = k
    · subst e; rw [hwk] at hwj; simp [hw] at hwj
    · simp [e]
end
theorem Below.toKeep {ρ : Ren} {w w' : World} (h : Below w.heap.size w w') : Keep ρ w w' := ⟨h.os, h.tape, h.output, h.size, fun k hk _ => h.block k hk⟩
structure Inv (ops : Array Oper) (n : Nat) (T : Nat → Tr Value) (Hh : Nat → Heap) (Rr : Nat → Rc) (D : Nat → Bool) (ρ0 : Ren) (w0 : World) (ρ : Ren) (a : Act) (w : World) : Prop where
  le : Ren.le ρ0 ρ
  fresh : Fresh ρ0 ρ w0
  keep : Keep ρ0 w0 w
  rep : RepF ρ (GD ops Hh Rr D) w
  size : a.tmps.size = n
  defers : a.defers = []
  val : ∀ x, VR ρ ((TD ops T D x).getD undef) (a.tmps.getD x undef)
  dom : ∀ i b, ρ i = some b → i < (Hh 0).next ∨ ∃ k, k < ops.size ∧ D k = true ∧ (Rr k).wr = true ∧ newB (Rr k) i = true
theorem via_comp (ρ : Ren) (F : List Nat) (n0 : Nat) : Ren.le (ρ.via F) (ρ.comp (tau F n0)) := by
  refine ⟨?_, rfl⟩
  intro i b hb
  cases hL : F[i]? with
  | none => simp only [Ren.via, hL] at hb; simp at hb
  | some x =>
    have hi := (List.getElem?_eq_some_iff.1 hL).1
    have hv := via_get ρ hL
    have e : tau F n0 i = x := by have := tau_lt (n0 := n0) hi; rw [hL] at this; exact (Option.some.inj this).symm
    refine ⟨?_, ?_, ?_, ?_, ?_⟩ <;> simp only [Ren.comp, e]
    · exact hv.1.symm
    · exact hv.2.1.symm
    · exact hv.2.2.1.symm
    · exact hv.2.2.2.1.symm
    · exact hv.2.2.2.2.symm
theorem put_val {ρ : Ren} {a : Act} {dst : Option Tmp} {v v' : Value} (hd : dstOk n dst = true) (hsz : a.tmps.size = n) (hv : VR ρ v v') {f g : Nat → Option Value} (hold : ∀ x, VR ρ ((f x).getD undef) (a.tmps.getD x undef))
    (hin : ∀ x, dst = some x → g x = some v) (hno : ∀ x, dst ≠ some x → g x = f x) : ∀ x, VR ρ ((g x).getD undef) ((a.put dst v').tmps.getD x undef) := by
  intro x
  cases dst with
  | none => rw [hno x (by simp)]; exact hold x
  | some d =>
    have hd' : d < a.tmps.size := by rw [hsz]; simpa [dstOk, Nat.blt_eq] using hd
    simp only [Act.put]
    by_cases e : d = x
    · subst e
      rw [hin d rfl]
      simp [hd', hv]
    · rw [hno x (by simpa using e)]
      have : (a.tmps.setIfInBounds d v').getD x undef = a.tmps.getD x undef := by
        simp only [Array.getD_eq_getD_getElem?]
        rw [Array.getElem?_setIfInBounds_ne (by omega)]
      rw [this]; exact hold x
theorem gOf_some {ms : Mk} {H : Heap} {b : Nat} {y : LO} (h : gOf true ms H b = some y) : ∃ x, H.get b = some x := by
  unfold gOf at h
  cases hg : H.get b with
  | some x => exact ⟨x, rfl⟩
  | none => rw [hg] at h; cases h
theorem moL_VRL {ρ : Ren} {q : Nat → Value → Bool} : ∀ {c c' : List Value} (i : Nat), VRL ρ c c' → VRL ρ (moL q i c) c'
  | [], _, _, h => h
  | v :: r, _, i, h => by
    simp only [VRL] at h
    obtain ⟨v', r', h1, h2, rfl⟩ := h
    simp only [moL, VRL]
    refine ⟨v', r', ?_, moL_VRL (i + 1) h2, rfl⟩
    cases q i v with
    | true => exact h1
    | false => exact VR_any v'
theorem mo_OR {ρ : Ren} {i : Nat} {q : Nat → Value → Bool} : ∀ (o : LO) (o' : Obj), OR ρ i o o' → OR ρ i (mo q o) o'
  | .cells c t, _, ⟨h0, c', h1, e⟩ => ⟨h0, c', moL_VRL 0 h1, e⟩
  | .row c t z, _, ⟨h0, c', d', h1, e⟩ => ⟨h0, c', d', moL_VRL 0 h1, e⟩
  | .fn k g n t, _, h => h
  | .arg k g n, _, h => h
  | .bts g n t, _, h => h
  | .mp g p n, _, h => h
theorem mo_own {q : Nat → Value → Bool} (o : LO) : (mo q o).own = o.own := by cases o <;> rfl
theorem RepF.mask {ρ : Ren} {G : Nat → Option LO} {w : World} (q : Mk) (h : RepF ρ G w) : RepF ρ (fun b => (G b).map (mo (q b))) w := by
  refine ⟨h.dom, fun i j b o hi ho hj => ?_, fun i o hi ho => ?_, fun i k g n hi => ?_, h.fix⟩
  · cases hg : G i with
    | none => rw [hg] at hi; cases hi
    | some x =>
      rw [hg] at hi; simp only [Option.map_some, Option.some.injEq] at hi; subst hi
      exact h.inj i j b x hg (by rw [← mo_own]; exact ho) (by simpa using hj)
  · cases hg : G i with
    | none => rw [hg] at hi; cases hi
    | some x =>
      rw [hg] at hi; simp only [Option.map_some, Option.some.injEq] at hi; subst hi
      obtain ⟨h1, b, o', h2, h3, h4⟩ := h.obj i x hg (by rw [← mo_own]; exact ho)
      exact ⟨h1, b, o', h2, h3, mo_OR x o' h4⟩
  · cases hg : G i with
    | none => rw [hg] at hi; cases hi
    | some x =>
      rw [hg] at hi; simp only [Option.map_some, Option.some.injEq] at hi
      have : x = .arg k g n := by cases x <;> simp [mo] at hi <;> simp_all
      subst this
      exact h.arg i k g n hg
theorem Inv.step (h : Trace P ops n T Hh Rr) {D : Nat → Bool} {ρ0 ρ : Ren} {w0 w : World} {a : Act} (hI : Inv ops n T Hh Rr D ρ0 w0 ρ a w) {k : Nat} {o : Oper} (hx : Nxt ops D k o) {Q : Exit → Act → World → Prop} {K : Act → World → Prop}
    (hK : ∀ ρ' a' w', Inv ops n T Hh Rr (ins D k) ρ0 w0 ρ' a' w' → K a' w') : wpOp P ops Q k K a w := by
  have hs := h.step k o hx.get
  have hok := h.ok hx.get
  have hrep : Rep (ρ.via (Rr k).F) (smallH (gOf (Rr k).rd (Rr k).ms (Hh k)) (Rr k).F) w := by
    cases hrd : (Rr k).rd with
    | false =>
      refine RepF.via (G := gOf false _ (Hh k)) ⟨hI.rep.dom, fun i j b o hi => (by cases hi), fun i o hi => (by cases hi), fun i k g n hi => (by cases hi), hI.rep.fix⟩ hok.nd hok.len (fun b hb x hbx => by cases hbx)
    | true =>
      have hfull := hok.full hrd
      rw [smallH_congr (G := gOf true (Rr k).ms (Hh k)) (G' := fun b => (GD ops Hh Rr D b).map (mo ((Rr k).ms b))) (fun b hb => by rw [hx.blocks h hrd hb]; rfl)]
      refine (hI.rep.mask _).via hok.nd hok.len (fun b hb x hbx => ?_)
      rw [hx.blocks h hrd hb] at hbx
      obtain ⟨y, h1, h2⟩ := hfull b hb
      have h1' : ((Hh k).get b).map (mo ((Rr k).ms b)) = some y := h1
      rw [h1'] at hbx; cases hbx; exact h2
  have hvals : ∀ x ∈ o.looksAt ops, VR (ρ.via (Rr k).F) (renV (posOf (Rr k).F) (((T k).get x).getD undef)) (a.tmps.getD x undef) := by
    intro x hxl
    refine VR_via _ _ (hok.look x hxl).2 ?_
    rw [← hx.tmps h hxl]; exact hI.val x
  have hgood := hs.good Q (ρ.via (Rr k).F) a w hrep hI.size hvals
  have hput : ∀ x, o.dst = some x → TD ops T (ins D k) x = some (renV (tau (Rr k).F (Hh k).next) (Rr k).v) := by
    intro x hd
    rw [hx.insT h, if_pos hd, hs.put x, hd]
    simp only [putT]
    have := hok.dst
    rw [hd] at this
    rw [Tr.get_set _ _ _ (by have := h.sn; simp [dstOk, Nat.blt_eq] at *; omega), if_pos rfl]
  have hnot : ∀ x, o.dst ≠ some x → TD ops T (ins D k) x = TD ops T D x := fun x hd => by rw [hx.insT h, if_neg hd]
  have hsize : ∀ v', (a.put o.dst v').tmps.size = n := fun v' => by
    cases o.dst <;> simp [Act.put, hI.size]
  have hdef : ∀ v', (a.put o.dst v').defers = [] := fun v' => by
    cases o.dst <;> simp [Act.put, hI.defers]
  cases hw : (Rr k).wr with
  | false =>
    rw [hw] at hgood
    refine hgood K (fun v' w' hv hbl => hK ρ _ w' ?_)
    have hG : GD ops Hh Rr (ins D k) = GD ops Hh Rr D := funext fun b => by
      rw [hx.insB h, if_neg (by rw [wrB_iff, hw]; simp)]
    refine ⟨hI.le, hI.fresh, Keep.trans hI.fresh hI.keep (Below.toKeep hbl), by rw [hG]; exact hI.rep.below hbl, hsize v', hdef v', ?_, fun i b hb => ?_⟩
    · exact put_val hok.dst hI.size ((VR_ren _ _).2 (VR.mono (via_comp ρ (Rr k).F (Hh k).next) _ _ hv)) hI.val hput hnot
    · rcases hI.dom i b hb with h1 | ⟨q, h1, h2, h3⟩
      · exact .inl h1
      · exact .inr ⟨q, h1, by simp [ins, h2], h3⟩
  | true =>
    rw [hw] at hgood
    refine hgood K (fun ρs' v' w' hle hfr hv hr' hkp => ?_)
    have hrd := hs.rd hw
    obtain ⟨hsum, m1, m2, m3⟩ := h.merged hx.get hw
    have hfree : ∀ i, (Hh k).next ≤ i → i < (Hh k).next + (Rr k).m → ρ i = none ∧ GD ops Hh Rr D i = none := by
      intro i h1 h2
      have hnew : newB (Rr k) i = true := by rw [newB_iff, hs.n0]; exact ⟨h1, h2⟩
      have h0k := h.mono (j := 0) (k := k) (by omega)
      have hnx := (h.new hx.get hw hnew).2
      constructor
      · cases hρ : ρ i with
        | none => rfl
        | some b =>
          exfalso
          rcases hI.dom i b hρ with h3 | ⟨q, h3, h4, h5, h6⟩
          · omega
          · have h7 := h.new (get_of_lt h3) h5 h6
            rcases Nat.lt_trichotomy q k with h8 | h8 | h8
            · have := h.mono (j := q + 1) (k := k) (by omega); omega
            · subst h8; rw [hx.no] at h4; cases h4
            · have := h.mono (j := k + 1) (k := q) (by omega); omega
      · unfold GD
        rw [LW_none (fun j hj hwj => ?_)]
        · cases hg : (Hh 0).get i with
          | none => rfl
          | some x => have := h.ltn i x hg; omega
        · rcases Nat.lt_trichotomy j k with h8 | h8 | h8
          · exfalso
            rw [wrB_iff] at hwj
            have hm := h.mono (j := j + 1) (k := k) (by omega)
            have hm' := h.mono (j := j) (k := j + 1) (by omega)
            rcases hwj.2 with h9 | h9
            · have := (h.ok (get_of_lt hj)).lt ((h.step j _ (get_of_lt hj)).rd hwj.1) i h9.1; omega
            · have := (h.new (get_of_lt hj) hwj.1 h9).2; omega
          · subst h8; exact hx.no
          · exact hx.later h hrd h8 hj (.inr ⟨hw, hnew⟩) hwj
    obtain ⟨ρ', hle', hdom', hfr', hkp', hrep', hcomp⟩ := hI.rep.merge (F := (Rr k).F) (n0 := (Hh k).next) (m := (Rr k).m) hok.nd
      (fun b hb => by rw [hx.blocks h hrd hb]; obtain ⟨y, h1, _⟩ := hok.full hrd b hb; exact gOf_some h1) (fun b hb => .inl (hok.lt hrd b hb)) hfree hle hfr hr' (hs.mem hw).2.2.2.2 hkp (by omega)
      (G' := GD ops Hh Rr (ins D k)) (fun i hi => by
        have m1i := m1 i (by omega)
        rw [hx.insB h]
        cases hwi : wrB Rr k (tau (Rr k).F (Hh k).next i) with
        | true => rw [if_pos rfl]; exact m1i.2
        | false =>
          rw [if_neg (by simp)]
          rcases m1i.1 with h1 | h1
          · rw [hwi] at h1; cases h1
          · obtain ⟨h2, h3⟩ := hs.stay _ ((memB_iff _ _).1 h1)
            rw [hx.blocks h hrd h2, ← h3]; exact m1i.2)
      (fun b hb => by
        rw [hx.insB h, if_neg]
        intro hwb
        obtain ⟨i, h1, h2⟩ := m3 b hwb
        exact hb i (by omega) h2)
    refine hK ρ' _ w' ⟨Ren.le_trans hI.le hle', Fresh.trans hI.keep.size hI.fresh hfr', Keep.trans hI.fresh hI.keep hkp', hrep', hsize v', hdef v', ?_, fun i b hb => ?_⟩
    · exact put_val hok.dst hI.size ((VR_ren _ _).2 (VR.mono hcomp _ _ hv)) (fun x => VR.mono hle' _ _ (hI.val x)) hput hnot
    · rcases hdom' i b hb with h1 | ⟨q, h1, h2⟩
      · rcases hI.dom i b h1 with h3 | ⟨q, h3, h4, h5⟩
        · exact .inl h3
        · exact .inr ⟨q, h3, by simp [ins, h4], h5⟩
      · have h3 := (m1 q (by omega)).1
        rw [h2, wrB_iff] at h3
        have inF : i ∈ (Rr k).F → i < (Hh 0).next ∨ ∃ q, q < ops.size ∧ ins D k q = true ∧ (Rr q).wr = true ∧ newB (Rr q) i = true := fun h4 => by
          by_cases hlt0 : i < (Hh 0).next
          · exact .inl hlt0
          · exact .inr (hx.maker h hrd h4 hlt0)
        rcases h3 with h3 | h3
        · rcases h3.2 with h4 | h4
          · exact inF h4.1
          · exact .inr ⟨k, lt_of_get hx.get, by simp [ins], hw, h4⟩
        · exact inF (hs.stay _ ((memB_iff _ _).1 h3)).1
end
end Go.Ly
namespace Go.Ly
open Go.RowKit
section
variable {P : Program} {ops : Array Oper} {n : Nat} {T : Nat → Tr Value} {Hh : Nat → Heap} {Rr : Nat → Rc}
def lsD (listed : Array Bool) : Nat → Bool := fun j => listed.getD j false
theorem mem_ready {listed : Array Bool} {i : Nat} : i ∈ Region.ready .any ops listed ↔ i < ops.size ∧ listed.getD i true = false ∧ ∀ o, ops[i]? = some o → ∀ e ∈ o.after, Region.binds .any e = true → lsD listed e.on = true := by
  unfold Region.ready
  rw [List.mem_filter, List.mem_range]
  constructor
  · rintro ⟨h1, h2⟩
    rw [Bool.and_eq_true] at h2
    refine ⟨h1, by simpa using h2.1, fun o ho e he hb => ?_⟩
    have h3 := h2.2
    rw [ho] at h3
    simp only [Option.map_some, Option.getD_some] at h3
    have h4 := (Array.all_eq_true_iff_forall_mem.1 h3) e he
    rw [hb] at h4
    simpa [lsD] using h4
  · rintro ⟨h1, h2, h3⟩
    refine ⟨h1, ?_⟩
    rw [Bool.and_eq_true]
    refine ⟨by simp [h2], ?_⟩
    rw [get_of_lt h1]
    simp only [Option.map_some, Option.getD_some]
    refine Array.all_eq_true_iff_forall_mem.2 (fun e he => ?_)
    cases hb : Region.binds .any e with
    | false => rfl
    | true =>
      have := h3 _ (get_of_lt h1) e he hb
      simpa [lsD] using this
theorem lsD_set {listed : Array Bool} {i : Nat} (hi : i < listed.size) : lsD (listed.setIfInBounds i true) = ins (lsD listed) i := by
  funext j
  unfold lsD ins
  by_cases e : j = i
  · subst e; simp [hi]
  · rw [show decide (j = i) = false by simpa using e, Bool.or_false]
    simp only [Array.getD_eq_getD_getElem?]
    rw [Array.getElem?_setIfInBounds_ne (by omega)]
theorem all_done (h : Trace P ops n T Hh Rr) {listed : Array Bool} (hsz : listed.size = ops.size) (hr : Region.ready .any ops listed = []) : ∀ k, k < ops.size → lsD listed k = true := by
  intro k
  induction k using Nat.strongRecOn with
  | _ k ih =>
    intro hk
    cases hD : lsD listed k with
    | true => rfl
    | false =>
      exfalso
      have : k ∈ Region.ready .any ops listed := by
        rw [mem_ready]
        refine ⟨hk, ?_, fun o ho e he hb => ?_⟩
        · unfold lsD at hD; simp [hsz, hk] at hD ⊢; exact hD
        · have hlt := h.edge k o ho e he hb
          exact ih e.on hlt (by omega)
      rw [hr] at this; cases this
theorem any_inv (h : Trace P ops n T Hh Rr) {Q : Exit → Act → World → Prop} {ρ0 : Ren} {w0 : World}
    (hQ : ∀ D ρ a w, (∀ k, k < ops.size → D k = true) → Inv ops n T Hh Rr D ρ0 w0 ρ a w → Q .normal a w) :
    ∀ (fuel : Nat) (listed : Array Bool) (ρ : Ren) (a : Act) (w : World), listed.size = ops.size →
      (∀ k o, ops[k]? = some o → lsD listed k = true → ∀ e ∈ o.after, Region.binds .any e = true → lsD listed e.on = true) →
      cnt (lsD listed) ops.size = fuel → Inv ops n T Hh Rr (lsD listed) ρ0 w0 ρ a w → wpAny P .any ops Q fuel listed a w := by
  intro fuel
  induction fuel with
  | zero =>
    intro listed ρ a w hsz hdown hc hI
    have hall := cnt_zero hc
    refine ⟨?_, hQ _ ρ a w hall hI⟩
    rw [List.eq_nil_iff_forall_not_mem]
    intro i hi
    rw [mem_ready] at hi
    have h1 := hall i hi.1
    have h2 := hi.2.1
    unfold lsD at h1
    simp [hsz, hi.1] at h1 h2
    rw [h1] at h2; cases h2
  | succ fuel ih =>
    intro listed ρ a w hsz hdown hc hI
    refine ⟨fun hr => hQ _ ρ a w (all_done h hsz hr) hI, fun i hi => ?_⟩
    rw [mem_ready] at hi
    obtain ⟨h1, h2, h3⟩ := hi
    have hno : lsD listed i = false := by unfold lsD; simp [hsz, h1] at h2 ⊢; exact h2
    have hx : Nxt ops (lsD listed) i (ops[i]) := ⟨get_of_lt h1, hno, hdown, fun e he hb => h3 _ (get_of_lt h1) e he hb⟩
    have hset := lsD_set (listed := listed) (i := i) (by omega)
    refine hI.step h hx (fun ρ' a' w' hI' => ?_)
    refine ih (listed.setIfInBounds i true) ρ' a' w' (by simp [hsz]) (fun k o hk hD e he hb => ?_) ?_ (by rw [hset]; exact hI')
    · rw [hset] at hD ⊢
      unfold ins at hD ⊢
      rw [Bool.or_eq_true] at hD ⊢
      left
      rcases hD with h4 | h4
      · exact hdown k o hk h4 e he hb
      · have h5 : k = i := by simpa using h4
        subst h5
        exact h3 o hk e he hb
    · rw [hset]
      have := cnt_ins (D := lsD listed) (D' := ins (lsD listed) i) (k := i) hno (by simp [ins]) (fun j hj => by simp [ins, hj]) h1
      omega
theorem Inv.finish (h : Trace P ops n T Hh Rr) {D : Nat → Bool} {ρ0 ρ : Ren} {w0 w : World} {a : Act} (hall : ∀ k, k < ops.size → D k = true) (hI : Inv ops n T Hh Rr D ρ0 w0 ρ a w) :
    Rep ρ (Hh ops.size) w ∧ TR ρ n (T ops.size) a := by
  have hG : GD ops Hh Rr D = (Hh ops.size).get := funext fun b => by
    rw [← h.upTo (Nat.le_refl _) b]
    unfold GD
    exact LW_congr (fun j hj _ => by rw [hall j hj]; simp [hj])
  have hT : ∀ x, TD ops T D x = (T ops.size).get x := fun x => by
    rw [← h.upToT (Nat.le_refl _) x]
    unfold TD
    exact LW_congr (fun j hj _ => by rw [hall j hj]; simp [hj])
  have hr := hI.rep
  rw [hG] at hr
  refine ⟨⟨h.nsmall _, fun i b hb => ⟨?_, hr.dom i b hb⟩, hr.inj, fun i o ho => h.ltn' _ i o ho, fun i o ho hown => ⟨fun _ => (hr.obj i o ho hown).1, (hr.obj i o ho hown).2⟩, hr.arg, hr.fix⟩, ⟨hI.size, h.sn, fun i => by rw [← hT]; exact hI.val i, hI.defers⟩⟩
  rcases hI.dom i b hb with h1 | ⟨q, h1, _, h3, h4⟩
  · have := h.mono (j := 0) (k := ops.size) (by omega); omega
  · have h5 := (h.new (get_of_lt h1) h3 h4).2
    have := h.mono (j := q + 1) (k := ops.size) (by omega); omega
end
section
variable {P : Program} {C : Ctx} {ops : Array Oper} {n : Nat}
theorem region_any {src : Src} (hC : C.Ok P) {id : Nat} {t : Tr Value} {H : Heap} (hl0 : H.lock = 0) {R : Tr Value → Heap → Prop} (hsat : (regX C src ops n ops.toList t H []).sat ops R) {ρ : Ren} {a : Act} {w : World} (hr : Rep ρ H w) (ht : TR ρ n t a) {Q : Exit → Act → World → Prop}
    (hQ : ∀ t' H' ρ' a' w', R t' H' → Ren.le ρ ρ' → Fresh ρ ρ' w → Keep ρ w w' → Rep ρ' H' w' → TR ρ' n t' a' → Q .normal a' w') : (Code.region id ops true).wp P Q a w := by
  obtain ⟨T0, Hh0, Rr0, e1, e2, e3, e4, e5⟩ := regX_trace hC ht.small ops.toList 0 t H [] (fun i => by simp) hsat
  have hlen : ops.toList.length = ops.size := by simp
  rw [hlen] at e3 e4 e5
  simp only [Nat.zero_add, List.append_nil] at e3 e4 e5
  let T : Nat → Tr Value := fun k => if k ≤ ops.size then T0 k else T0 ops.size
  let Hh : Nat → Heap := fun k => if k ≤ ops.size then Hh0 k else Hh0 ops.size
  let Rr : Nat → Rc := fun k => if k < ops.size then Rr0 k else ⟨[], false, 0, 0, undef, H, false, mkNo, []⟩
  have hTr : Trace P ops n T Hh Rr := by
    refine ⟨fun k o hk => ?_, fun k hk => ?_, fun j k oj ok hjk hj hk hcf => ?_, fun k o hk => ?_, ?_, ?_, ht.small⟩
    · have hks := lt_of_get hk
      have := e3 k o hks hk
      simp only [T, Hh, Rr, if_pos (Nat.le_of_lt hks), if_pos hks, if_pos (show k + 1 ≤ ops.size from hks)]
      exact this
    · refine ⟨by simp only [Rr, if_neg (show ¬ k < ops.size by omega)], ?_, ?_⟩
      · simp only [T]
        rw [if_neg (by omega)]
        by_cases e : k ≤ ops.size
        · rw [if_pos e, show k = ops.size by omega]
        · rw [if_neg e]
      · simp only [Hh]
        rw [if_neg (by omega)]
        by_cases e : k ≤ ops.size
        · rw [if_pos e, show k = ops.size by omega]
        · rw [if_neg e]
    · have hks := lt_of_get hk
      have hjs := lt_of_get hj
      have hchk := e4
      unfold checkX at hchk
      rw [show ops.toList.reverse.zip ((List.range ops.size).map fun i => Rr0 i).reverse = (List.range ops.size).reverse.map (fun i => ((ops[i]?).getD ok, Rr0 i)) from by
        have hl : ops.toList = (List.range ops.size).map (fun i => (ops[i]?).getD ok) := by
          apply List.ext_getElem?
          intro i
          rw [List.getElem?_map]
          by_cases hi : i < ops.size
          · rw [List.getElem?_range hi]
            simp [hi]
          · rw [List.getElem?_eq_none (by simp; omega), List.getElem?_eq_none (by simp; omega)]; rfl
        rw [hl, ← List.map_reverse, ← List.map_reverse, List.zip_map']] at hchk
      have h1 := (pairsB_spec ops.size hchk k hks).1 j hjk
      simp only [hj, hk, Option.getD_some] at h1
      refine h1 ?_
      simp only [Rr, if_pos hks, if_pos hjs] at hcf
      exact hcf
    · have hks := lt_of_get hk
      have hchk := e4
      unfold checkX at hchk
      rw [show ops.toList.reverse.zip ((List.range ops.size).map fun i => Rr0 i).reverse = (List.range ops.size).reverse.map (fun i => ((ops[i]?).getD o, Rr0 i)) from by
        have hl : ops.toList = (List.range ops.size).map (fun i => (ops[i]?).getD o) := by
          apply List.ext_getElem?
          intro i
          rw [List.getElem?_map]
          by_cases hi : i < ops.size
          · rw [List.getElem?_range hi]
            simp [hi]
          · rw [List.getElem?_eq_none (by simp; omega), List.getElem?_eq_none (by simp; omega)]; rfl
        rw [hl, ← List.map_reverse, ← List.map_reverse, List.zip_map']] at hchk
      have h1 := (pairsB_spec ops.size hchk k hks).2
      simp only [hk, Option.getD_some] at h1
      exact h1
    · simp only [Hh, if_pos (Nat.zero_le _), e2]; exact hr.small
    · simp only [Hh, if_pos (Nat.zero_le _), e2]; exact hr.ltn
  refine wp_region_any hC.fol ?_
  have hwd : ({ w with drawn := w.drawn + 1 } : World) = w.drew := rfl
  rw [hwd]
  have hT0 : ∀ x, (T 0).get x = t.get x := fun x => by simp only [T, if_pos (Nat.zero_le _)]; exact e1 x
  have hH0 : Hh 0 = H := by simp only [Hh, if_pos (Nat.zero_le _), e2]
  have hrep : ∀ j, lsD (Array.replicate ops.size false) j = false := fun j => by
    unfold lsD; exact getD_replicate_false _ _
  have hcn : ∀ m, cnt (lsD (Array.replicate ops.size false)) m = m := fun m => by
    induction m with
    | zero => rfl
    | succ m ih => simp only [cnt]; rw [ih, hrep]; rfl
  refine any_inv hTr (ρ0 := ρ) (w0 := w) ?_ ops.size (Array.replicate ops.size false) ρ a w.drew (by simp) (fun k o _ hD => by rw [hrep] at hD; cases hD) (hcn _) ?_
  · intro D ρ' a' w' hall hI
    obtain ⟨f1, f2⟩ := hI.finish hTr hall
    refine hQ _ _ ρ' a' w' e5 hI.le hI.fresh hI.keep ?_ ?_
    · simpa [Hh] using f1
    · simpa [T] using f2
  · have hr' := hr.drew
    refine ⟨Ren.le_refl _, Fresh.refl _ _, Keep.drew _ _, ?_, ht.size, ht.defers, fun x => ?_, fun i b hb => .inl (by rw [hH0]; exact (hr.dom i b hb).1)⟩
    · have : GD ops Hh Rr (lsD (Array.replicate ops.size false)) = H.get := funext fun b => by
        unfold GD
        rw [LW_none (fun j _ _ => hrep j), hH0]
      rw [this]; exact hr'.toF hl0
    · unfold TD
      rw [LW_none (fun j _ _ => hrep j), hT0 x]; exact ht.val x
end
end Go.Ly
namespace Go.Ly
open Go.RowKit
def putFr (S : St) (k : List KI) (dst : Option Tmp) (v : Value) (H : Heap) : SR := bif dstOk S.top.fn.ntmps dst then .go { S with top := { S.top with t := putT S.top.t dst v, k := k }, H := H } else .no
def trArgs : List Value → Nat → Tr Value → Tr Value
  | [], _, t => t
  | v :: r, i, t => trArgs r (i + 1) (t.set i (some v))
def enterFr (C : Ctx) (S : St) (k : List KI) (dst : Option Tmp) (f : Nat) (args : List Value) : SR :=
  match C.fn.get f with
  | none => .no
  | some fn =>
    match fn.body with
    | none => .no
    | some c =>
      bif Nat.ble args.length fn.ntmps && (Nat.blt fn.ntmps 1000000 && dstOk S.top.fn.ntmps dst) then
        .go { top := { fn := fn, t := trArgs args 0 .nil, k := [.code c], dst := none }, rest := { S.top with k := k, dst := dst } :: S.rest, H := S.H, base := S.base }
      else .no
def conSR (S : St) (k : List KI) (dst : Option Tmp) (alt : SR) : ER → SR
  | .val v => putFr S k dst v S.H
  | .tst b x y => .tst b (conSR S k dst alt x) (conSR S k dst alt y)
  | _ => alt
def hconSR (S : St) (k : List KI) (dst : Option Tmp) : ER → SR
  | .val v => putFr S k dst v S.H
  | .mem v H => putFr S k dst v H
  | .tst b x y => .tst b (hconSR S k dst x) (hconSR S k dst y)
  | _ => .stop
def applyER (C : Ctx) (S : St) (k : List KI) (dst : Option Tmp) : ER → SR
  | .val v => putFr S k dst v S.H
  | .mem v H => putFr S k dst v H
  | .skip H => putFr S k dst undef H
  | .call f args => bif C.opq f then conSR S k dst (hconSR S k dst (C.hcon f S.H args)) (C.con f S.H args) else enterFr C S k dst f args
  | .tst b x y => .tst b (applyER C S k dst x) (applyER C S k dst y)
  | .no => .no
def guardSR (all : Array Oper) (t : Tr Value) (n : Nat) (o : Oper) (yes els : SR) : SR :=
  match o.guard with
  | none => yes
  | some (j, want) =>
    match (all.toList[j]?).bind (·.dst) with
    | none => els
    | some d =>
      bif Nat.blt d n then
        (match (t.get d).getD undef with
        | .bool b => bif b == want then yes else els
        | .tuple _ => els
        | _ => .no)
      else .no
def gdS : Option (Nat × Bool × Bool) → St → (St → SR) → SR
  | none, S, k => k S
  | some (d, want, b), S, k => .tst (b == want) (k { S with top := { S.top with t := S.top.t.set d (some (.bool want)) } }) (k { S with top := { S.top with t := S.top.t.set d (some (.bool (!want))) } })
def stepOps (C : Ctx) (S : St) (all : Array Oper) (l : List Oper) (k : List KI) : SR :=
  match l with
  | [] => .go { S with top := { S.top with k := k } }
  | o :: l => gdS (guardOf all S.top.fn.ntmps S.top.t o) S fun S => guardSR all S.top.t S.top.fn.ntmps o (applyER C S (.ops all l :: k) o.dst (evOp C.toEnv S.H S.top.t o)) (putFr S (.ops all l :: k) o.dst undef S.H)
mutual
/-- a value that stands for just one -/
def rig : Value → Bool
  | .bool _ | .int _ _ | .string _ | .pointer _ | .slice none _ _ | .map _ | .nilFunc | .nilIface => true
  | .slice (some _) n c => Nat.blt 0 n && !(Nat.beq c 18446744073709551616)
  | .func _ ⟨xs⟩ ⟨ys⟩ => rigL xs && rigL ys
  | .iface _ x => rig x
  | .agg ⟨xs⟩ => rigL xs
  | .tuple ⟨xs⟩ => rigL xs
  | _ => false
def rigL : List Value → Bool
  | [] => true
  | v :: r => rig v && rigL r
end
def quietOp (C : Ctx) (o : Oper) : Bool :=
  match o.op with
  | .move _ | .assign _ | .pick .. | .build .. | .load .. | .nilCheck _ | .binOp .. | .unOp .. | .convert .. | .makeFunc .. | .slice .. | .fieldAddr .. | .field .. | .indexAddr .. | .index .. | .extract .. => true
  | .call c => match c.callee with
    | .value (.func f) => C.opq f && !C.lex
    | .builtin .len => true
    | _ => false
  | _ => false
def quietN (C : Ctx) : List Oper → Nat
  | [] => 0
  | o :: l => bif quietOp C o then quietN C l + 1 else 0
def conQR (S : St) (k : List KI) (dst : Option Tmp) : ER → SR
  | .val v => bif rig v then putFr S k dst v S.H else .no
  | .tst b x y => .tst b (conQR S k dst x) (conQR S k dst y)
  | _ => .no
def applyQ (C : Ctx) (S : St) (k : List KI) (dst : Option Tmp) (free : Bool) : ER → SR
  | .val v => bif free || rig v then putFr S k dst v S.H else .no
  | .call f args => bif C.opq f then conQR S k dst (C.con f S.H args) else .no
  | .tst b x y => .tst b (applyQ C S k dst free x) (applyQ C S k dst free y)
  | _ => .no
def stepOpsQ (C : Ctx) (S : St) (all : Array Oper) (n : Nat) (l : List Oper) (k : List KI) : SR :=
  match l with
  | [] => .go { S with top := { S.top with k := .ops all (all.toList.drop n) :: k } }
  | o :: l => gdS (guardOf all S.top.fn.ntmps S.top.t o) S fun S => guardSR all S.top.t S.top.fn.ntmps o (applyQ C S (.opsQ all n l :: k) o.dst (isFree o.op) (evOp C.toEnv S.H S.top.t o)) (putFr S (.opsQ all n l :: k) o.dst undef S.H)
def forceA {β : Type} (a : Addr) (k : Addr → β) : β := match a with | ⟨b, o, s⟩ => forceN b fun b => k ⟨b, o, s⟩
mutual
def forceV {β : Type} : Value → (Value → β) → β
  | .bool b, k => k (.bool b)
  | .int t n, k => k (.int t n)
  | .string s, k => k (.string s)
  | .pointer none, k => k (.pointer none)
  | .pointer (some a), k => forceA a fun a => k (.pointer (some a))
  | .slice none n c, k => k (.slice none n c)
  | .slice (some a) n c, k => forceA a fun a => k (.slice (some a) n c)
  | .agg ⟨xs⟩, k => forceL xs fun xs => k (.agg ⟨xs⟩)
  | .tuple ⟨xs⟩, k => forceL xs fun xs => k (.tuple ⟨xs⟩)
  | v, k => k v
def forceL {β : Type} : List Value → (List Value → β) → β
  | [], k => k []
  | v :: r, k => forceV v fun v => forceL r fun r => k (v :: r)
end
def forceO {β : Type} : Option Value → (Option Value → β) → β
  | none, k => k none
  | some v, k => forceV v fun v => k (some v)
def forceLO {β : Type} : Option LO → (Option LO → β) → β
  | none, k => k none
  | some (.cells c t), k => forceL c fun c => k (some (.cells c t))
  | some (.row c t z), k => forceL c fun c => k (some (.row c t z))
  | some (.fn n g m t), k => k (some (.fn n g m t))
  | some (.arg n g m), k => k (some (.arg n g m))
  | some (.bts g m t), k => k (some (.bts g m t))
  | some (.mp g p m), k => k (some (.mp g p m))
def forceTr {α β : Type} (f : Option α → (Option α → β) → β) : Tr α → (Tr α → β) → β
  | .nil, k => k .nil
  | .node v l r, k => f v fun v => forceTr f l fun l => forceTr f r fun r => k (.node v l r)
theorem forceA_eq {β : Type} (a : Addr) (k : Addr → β) : forceA a k = k a := by obtain ⟨b, o, s⟩ := a; simp only [forceA]; rw [forceN_eq]
mutual
theorem forceV_eq {β : Type} : ∀ (v : Value) (k : Value → β), forceV v k = k v
  | .bool b, k => by simp only [forceV]
  | .int t n, k => by simp only [forceV]
  | .string s, k => by simp only [forceV]
  | .pointer none, k => by simp only [forceV]
  | .pointer (some a), k => by simp only [forceV]; rw [forceA_eq]
  | .slice none n c, k => by simp only [forceV]
  | .slice (some a) n c, k => by simp only [forceV]; rw [forceA_eq]
  | .agg ⟨xs⟩, k => by simp only [forceV]; rw [forceL_eq]
  | .tuple ⟨xs⟩, k => by simp only [forceV]; rw [forceL_eq]
  | .map _, k => by simp only [forceV]
  | .func _ _ _, k => by simp only [forceV]
  | .nilFunc, k => by simp only [forceV]
  | .iface _ _, k => by simp only [forceV]
  | .nilIface, k => by simp only [forceV]
  | .float _ _, k => by simp only [forceV]
  | .complex _ _ _, k => by simp only [forceV]
  | .chan _, k => by simp only [forceV]
theorem forceL_eq {β : Type} : ∀ (l : List Value) (k : List Value → β), forceL l k = k l
  | [], k => by simp only [forceL]
  | v :: r, k => by simp only [forceL]; rw [forceV_eq, forceL_eq]
end
theorem forceO_eq {β : Type} (v : Option Value) (k : Option Value → β) : forceO v k = k v := by
  cases v with
  | none => rfl
  | some v => simp only [forceO]; rw [forceV_eq]
theorem forceLO_eq {β : Type} (v : Option LO) (k : Option LO → β) : forceLO v k = k v := by
  cases v with
  | none => rfl
  | some o => cases o <;> simp only [forceLO] <;> rw [forceL_eq]
theorem forceTr_eq {α β : Type} {f : Option α → (Option α → β) → β} (hf : ∀ v k, f v k = k v) : ∀ (t : Tr α) (k : Tr α → β), forceTr f t k = k t
  | .nil, k => rfl
  | .node v l r, k => by simp only [forceTr]; rw [hf, forceTr_eq hf l, forceTr_eq hf r]
def gxSR (S : St) (ops : Array Oper) (k : List KI) (alt : SR) : GX → SR
  | .fin t H rs => bif checkX ops rs then forceTr forceO t fun t => forceTr forceLO H.m fun hm => forceN H.next fun hn => .go { S with top := { S.top with t := t, k := k }, H := { m := hm, next := hn, lock := H.lock } } else alt
  | .tst b x y => .tst b (gxSR S ops k alt x) (gxSR S ops k alt y)
  | .no => alt
def orNo : SR → SR → SR
  | .no, b => b
  | a, _ => a
def enterX (C : Ctx) (src : Src) (S : St) (ops : Array Oper) (k : List KI) (alt : SR) : SR := bif Nat.beq S.H.lock 0 then gxSR S ops k alt (regX C src ops S.top.fn.ntmps ops.toList S.top.t S.H []) else alt
def enterL (C : Ctx) (S : St) (ops : Array Oper) (k : List KI) : SR := bif Nat.beq (quietN C ops.toList) ops.size then (bif Region.lexB .any ops then .go { S with top := { S.top with k := .opsQ ops ops.size ops.toList :: k } } else .no) else (bif Region.lexTailB .any ops (quietN C ops.toList) then .go { S with top := { S.top with k := .opsQ ops (quietN C ops.toList) (ops.toList.take (quietN C ops.toList)) :: k } } else .no)
def enterQ (C : Ctx) (S : St) (ops : Array Oper) (k : List KI) : SR := bif C.lex then enterL C S ops k else enterX C noS S ops k (orNo (enterL C S ops k) (enterX C srcA S ops k .no))
def exitK (id : Nat) : List KI → Option (List KI)
  | [] => none
  | .inBlock id' :: k => bif Nat.beq id' id then some k else exitK id k
  | _ :: k => exitK id k
def gotoK (l : Nat) : List KI → Option (List KI)
  | [] => none
  | .inScope c :: k => match findLabel c l with
    | some r => some (.code r :: .inScope c :: k)
    | none => gotoK l k
  | _ :: k => gotoK l k
def evRes (E : Env) (H : Heap) (t : Tr Value) : List ResultVar → Option (List Value)
  | [] => some []
  | .tmp i :: r => match evRes E H t r with
    | some l => some ((t.get i).getD undef :: l)
    | none => none
  | .cell i ty :: r => match evLoad E H ty ((t.get i).getD undef), evRes E H t r with
    | .val v, some l => some (v :: l)
    | _, _ => none
def oneOrAll : List Value → Value
  | [v] => v
  | l => .tuple ⟨l⟩
def stepRet (C : Ctx) (S : St) : SR :=
  match evRes C.toEnv S.H S.top.t S.top.fn.results.toList with
  | none => .no
  | some l =>
    match S.rest with
    | [] => .done (oneOrAll l) S.H
    | f :: r => bif dstOk f.fn.ntmps f.dst then .go { top := { f with t := putT f.t f.dst (oneOrAll l) }, rest := r, H := S.H, base := S.base } else .no
def stepCode (C : Ctx) (S : St) (c : Code) (k : List KI) : SR :=
  match c with
  | .skip => .go { S with top := { S.top with k := k } }
  | .label _ => .go { S with top := { S.top with k := k } }
  | .seq a b => .go { S with top := { S.top with k := .code a :: .code b :: k } }
  | .cond x a b => match evx S.top.t x with
    | some (.bool q) => .tst q (.go { S with top := { S.top with k := .code a :: k } }) (.go { S with top := { S.top with k := .code b :: k } })
    | _ => .no
  | .block id a => .go { S with top := { S.top with k := .code a :: .inBlock id :: k } }
  | .loop a => .go { S with top := { S.top with k := .code a :: .inLoop a :: k } }
  | .exit id => match exitK id k with
    | some k' => .go { S with top := { S.top with k := k' } }
    | none => .no
  | .ret => stepRet C S
  | .scope a => .go { S with top := { S.top with k := .code a :: .inScope a :: k } }
  | .goto l => match gotoK l k with
    | some k' => .go { S with top := { S.top with k := k' } }
    | none => .no
  | .region _ ops false => .go { S with top := { S.top with k := .ops ops ops.toList :: k } }
  | .region _ ops true => enterQ C S ops k
  | _ => .no
def step (C : Ctx) (S : St) : SR :=
  match S.top.k with
  | [] => stepRet C S
  | .code c :: k => stepCode C S c k
  | .inBlock _ :: k => .go { S with top := { S.top with k := k } }
  | .inScope _ :: k => .go { S with top := { S.top with k := k } }
  | .inLoop c :: k => .go { S with top := { S.top with k := .code c :: .inLoop c :: k } }
  | .ops all l :: k => stepOps C S all l k
  | .opsQ all n l :: k => stepOpsQ C S all n l k
end Go.Ly
namespace Go.Ly
open Go.RowKit
section
variable {P : Program} {ρ : Ren} {w : World} {H : Heap} {C : Ctx}
theorem loopWp_of {c : Code} {Q : Exit → Act → World → Prop} {a : Act} (h : c.wp P (Exit.then (loopWp P c Q) Q) a w) : loopWp P c Q a w := by
  intro b k cs
  obtain ⟨e, a₁, w₁, hq, harr⟩ := h b (.inLoop c :: k) cs
  cases e with
  | normal =>
    obtain ⟨e₂, a₂, w₂, hq₂, harr₂⟩ := hq b k cs
    exact ⟨e₂, a₂, w₂, hq₂, .of_steps (.head step_inLoop harr) harr₂⟩
  | exit id => exact ⟨_, a₁, w₁, hq, .of_steps (.one step_inLoop) (.pass (x := .inLoop c) rfl (fun _ _ => .inl (by simp)) harr)⟩
  | goto l => exact ⟨_, a₁, w₁, hq, .of_steps (.one step_inLoop) (.pass (x := .inLoop c) rfl (fun _ _ => .inl (by simp)) harr)⟩
  | ret => exact ⟨_, a₁, w₁, hq, .of_steps (.one step_inLoop) (.pass (x := .inLoop c) rfl (fun _ _ => .inl (by simp)) harr)⟩
  | panic ch => exact ⟨_, a₁, w₁, hq, .of_steps (.one step_inLoop) (.pass (x := .inLoop c) rfl (fun _ _ => .inl (by simp)) harr)⟩
  | outgrown => exact ⟨_, a₁, w₁, hq, .of_steps (.one step_inLoop) (.pass (x := .inLoop c) rfl (fun _ _ => .inl (by simp)) harr)⟩
theorem loop_of {c : Code} {Q : Exit → Act → World → Prop} {a : Act} (h : c.wp P (Exit.then (loopWp P c Q) Q) a w) : (Code.loop c).wp P Q a w := by
  intro b k cs
  obtain ⟨e, a₁, w₁, hq, harr⟩ := h b (.inLoop c :: k) cs
  cases e with
  | normal =>
    obtain ⟨e₂, a₂, w₂, hq₂, harr₂⟩ := hq b k cs
    exact ⟨e₂, a₂, w₂, hq₂, .of_steps (.head step_loop harr) harr₂⟩
  | exit id => exact ⟨_, a₁, w₁, hq, .of_steps (.one step_loop) (.pass (x := .inLoop c) rfl (fun _ _ => .inl (by simp)) harr)⟩
  | goto l => exact ⟨_, a₁, w₁, hq, .of_steps (.one step_loop) (.pass (x := .inLoop c) rfl (fun _ _ => .inl (by simp)) harr)⟩
  | ret => exact ⟨_, a₁, w₁, hq, .of_steps (.one step_loop) (.pass (x := .inLoop c) rfl (fun _ _ => .inl (by simp)) harr)⟩
  | panic ch => exact ⟨_, a₁, w₁, hq, .of_steps (.one step_loop) (.pass (x := .inLoop c) rfl (fun _ _ => .inl (by simp)) harr)⟩
  | outgrown => exact ⟨_, a₁, w₁, hq, .of_steps (.one step_loop) (.pass (x := .inLoop c) rfl (fun _ _ => .inl (by simp)) harr)⟩
theorem scopeWp_of {c rest : Code} {Q : Exit → Act → World → Prop} {a : Act} (h : rest.wp P (scopePost P c Q) a w) : scopeWp P c rest Q a w := by
  intro b k cs
  obtain ⟨e, a₁, w₁, hq, harr⟩ := h b (.inScope c :: k) cs
  cases e with
  | normal => exact ⟨.normal, a₁, w₁, hq, Steps.trans harr (.one step_inScope)⟩
  | exit id => exact ⟨.exit id, a₁, w₁, hq, fun k' hk => harr k' (by simp [exitTo, hk])⟩
  | goto l =>
    simp only [scopePost] at hq
    cases hf : findLabel c l with
    | none => rw [hf] at hq; exact ⟨.goto l, a₁, w₁, hq, fun k' hk => harr k' (by simp [gotoIn, hf, hk])⟩
    | some r =>
      rw [hf] at hq
      obtain ⟨e₂, a₂, w₂, hq₂, harr₂⟩ := hq b k cs
      exact ⟨e₂, a₂, w₂, hq₂, .of_steps (harr _ (by simp [gotoIn, hf])) harr₂⟩
  | ret => exact ⟨_, a₁, w₁, hq, harr⟩
  | panic ch => exact ⟨_, a₁, w₁, hq, harr⟩
  | outgrown => exact ⟨_, a₁, w₁, hq, harr⟩
theorem scope_of {c : Code} {Q : Exit → Act → World → Prop} {a : Act} (h : c.wp P (scopePost P c Q) a w) : (Code.scope c).wp P Q a w := by
  intro b k cs
  obtain ⟨e, a₁, w₁, hq, harr⟩ := scopeWp_of h b k cs
  exact ⟨e, a₁, w₁, hq, .of_steps (.one step_scope) harr⟩
theorem afterWp_ret {Q : Exit → Act → World → Prop} {a : Act} : ∀ (k : List KI), Q .ret a w → afterWp P k Q .ret a w
  | [], h => h
  | .code c :: k, h => afterWp_ret k h
  | .inBlock id :: k, h => afterWp_ret k h
  | .inLoop c :: k, h => afterWp_ret k h
  | .inScope c :: k, h => afterWp_ret k h
  | .ops all l :: k, h => afterWp_ret k h
  | .opsQ all n l :: k, h => afterWp_ret k h
theorem afterWp_exit {Q : Exit → Act → World → Prop} {a : Act} {id : Nat} {k' : List KI} : ∀ (k : List KI), exitK id k = some k' → afterWp P k' Q .normal a w → afterWp P k Q (.exit id) a w
  | [], e, h => by simp [exitK] at e
  | .code c :: k, e, h => afterWp_exit k e h
  | .inBlock id' :: k, e, h => by
    simp only [exitK] at e
    cases hb : Nat.beq id' id with
    | true =>
      rw [hb] at e; simp at e; subst e
      obtain rfl := Nat.eq_of_beq_eq_true hb
      simp only [afterWp, if_true]; exact h
    | false =>
      rw [hb] at e; simp only [cond_false] at e
      have hne := Nat.ne_of_beq_eq_false hb
      simp only [afterWp]
      rw [if_neg (fun x => hne x.symm)]
      exact afterWp_exit k e h
  | .inLoop c :: k, e, h => afterWp_exit k e h
  | .inScope c :: k, e, h => afterWp_exit k e h
  | .ops all l :: k, e, h => afterWp_exit k e h
  | .opsQ all n l :: k, e, h => afterWp_exit k e h
theorem afterWp_goto {Q : Exit → Act → World → Prop} {a : Act} {l : Nat} {k' : List KI} : ∀ (k : List KI), gotoK l k = some k' → afterWp P k' Q .normal a w → afterWp P k Q (.goto l) a w
  | [], e, h => by simp [gotoK] at e
  | .code c :: k, e, h => afterWp_goto k e h
  | .inBlock id' :: k, e, h => afterWp_goto k e h
  | .inLoop c :: k, e, h => afterWp_goto k e h
  | .inScope c :: k, e, h => by
    simp only [gotoK] at e
    show scopePost P c (afterWp P k Q) (.goto l) a w
    simp only [scopePost]
    cases hf : findLabel c l with
    | some r =>
      rw [hf] at e; simp only [Option.some.injEq] at e; subst e
      exact scopeWp_of h
    | none => rw [hf] at e; exact afterWp_goto k e h
  | .ops all l :: k, e, h => afterWp_goto k e h
  | .opsQ all n l :: k, e, h => afterWp_goto k e h
theorem then_after {Q : Exit → Act → World → Prop} {x : KI} {k : List KI} (hx : ∀ id, x ≠ .inBlock id) (hx' : ∀ c, x ≠ .inScope c) (next : Act → World → Prop) (hn : ∀ a w, afterWp P (x :: k) Q .normal a w → next a w) :
    ∀ e a w, afterWp P (x :: k) Q e a w → Exit.then next (afterWp P k Q) e a w := by
  intro e a w h
  cases e with
  | normal => exact hn a w h
  | _ => cases x <;> first | exact h | (exact absurd rfl (hx _)) | (exact absurd rfl (hx' _))
theorem block_after {Q : Exit → Act → World → Prop} {id : Nat} {k : List KI} : ∀ e a w, afterWp P (.inBlock id :: k) Q e a w → Exit.inBlock id (afterWp P k Q) e a w := by
  intro e a w h
  cases e <;> exact h
theorem MWp.move {S S' : St} {Q : Value → Heap → Prop} (hrest : S'.rest = S.rest) (hbase : S'.base = S.base) (hH : S'.H = S.H) (hfn : S'.top.fn = S.top.fn) (ht : S'.top.t = S.top.t)
    (h : MWp P S' Q) (hk : ∀ (TP : Exit → Act → World → Prop) (a : Act) (w : World), afterWp P S'.top.k TP .normal a w → afterWp P S.top.k TP .normal a w) : MWp P S Q := by
  intro ρ w g gs R hr hf hfs hR
  have := h ρ w { g with k := S'.top.k, dst := S'.top.dst } gs R (by rw [hH]; exact hr) ⟨by rw [hfn]; exact hf.fn, rfl, rfl, by rw [hfn, ht]; exact hf.t⟩ (by rw [hrest]; exact hfs) (by rw [hbase]; exact hR)
  unfold stateWp at this ⊢
  rw [hf.k]
  exact hk _ _ _ this
theorem putFr_sound {S : St} {Q : Value → Heap → Prop} {k : List KI} {dst : Option Tmp} {v : Value} {H' : Heap} (hs : (putFr S k dst v H').sat P Q)
    {ρ ρ' : Ren} {w w' : World} {g : AF} {gs : List AF} {R : Value → World → Prop} (hf : FR ρ S.top g) (hfs : FRL ρ S.rest gs) (hle : Ren.le ρ ρ') (hfr : Fresh ρ ρ' w) (hr' : Rep ρ' H' w') (hkp : Keep ρ w w')
    {v' : Value} (hv : VR ρ' v v')
    (hR : ∀ (ρ' : Ren) (v v' : Value) (H' : Heap) (w' : World), Q v H' → Ren.le (ρ.cut S.base) ρ' → Fresh ρ ρ' w → VR ρ' v v' → Rep ρ' H' w' → Keep ρ w w' → R v' w') :
    afterWp P k (topPost P g.fn gs R) .normal (g.a.put dst v') w' := by
  unfold putFr at hs
  cases hd : dstOk S.top.fn.ntmps dst with
  | false => rw [hd] at hs; exact hs.elim
  | true =>
    rw [hd] at hs
    have hs' : MWp P { S with top := { S.top with t := putT S.top.t dst v, k := k }, H := H' } Q := hs
    have := hs' ρ' w' { g with k := k, dst := S.top.dst, a := g.a.put dst v' } gs R hr' ⟨hf.fn, rfl, rfl, (hf.t.mono hle).put hd hv⟩ (FRL.mono hle hfs)
      (fun ρ'' u u' H'' w'' hq h1 h2 h3 h4 h5 => hR ρ'' u u' H'' w'' hq (Ren.le_trans (Ren.cut_le hle _) h1) (Fresh.trans hkp.size hfr h2) h3 h4 (Keep.trans hfr hkp h5))
    exact this
theorem Rep.below {w w' : World} (hr : Rep ρ H w) (h : Below w.heap.size w w') : Rep ρ H w' :=
  ⟨hr.small, fun i b hb => ⟨(hr.dom i b hb).1, Nat.lt_of_lt_of_le (hr.dom i b hb).2 h.size⟩, hr.inj, hr.ltn, fun i o ho hown => by
    obtain ⟨hro, b, o', hb, hw, hor⟩ := hr.obj i o ho hown
    exact ⟨hro, b, o', hb, by rw [h.block b (hr.dom i b hb).2]; exact hw, hor⟩,
   fun i k g n ho => ⟨(hr.arg i k g n ho).1, (hr.arg i k g n ho).2.world (fun b hb => h.block b (hr.dom i b hb).2)⟩,
   ⟨fun b o e => by rw [h.block b (hr.fix.lt e)]; exact hr.fix.held b o e, hr.fix.ro⟩⟩
theorem trArgs_get : ∀ (vs : List Value) (i : Nat) (t : Tr Value), i + vs.length < big → ∀ j, (trArgs vs i t).get j = if i ≤ j ∧ j < i + vs.length then vs[j - i]? else t.get j
  | [], i, t, h, j => by simp only [trArgs, List.length_nil]; rw [if_neg (by omega)]
  | v :: r, i, t, h, j => by
    simp only [List.length_cons] at h ⊢
    rw [trArgs, trArgs_get r (i + 1) _ (by omega), Tr.get_set _ _ _ (by omega)]
    by_cases h1 : j = i
    · subst h1
      rw [if_neg (by omega), if_pos rfl, if_pos (by omega)]; simp
    · by_cases h2 : i + 1 ≤ j ∧ j < i + 1 + r.length
      · rw [if_pos h2, if_pos (by omega)]
        rw [show j - i = (j - (i + 1)) + 1 by omega]; simp
      · rw [if_neg h2, if_neg h1, if_neg (by omega)]
theorem enter_TR {args args' : List Value} {fn : Func} (ha : VRL ρ args args') (hl : args.length ≤ fn.ntmps) (hn : fn.ntmps < 1000000) :
    TR ρ fn.ntmps (trArgs args 0 .nil) { tmps := (⟨args'⟩ : Array Value) ++ Array.replicate (fn.ntmps - (⟨args'⟩ : Array Value).size) undef, defers := [] } := by
  have hlen := VRL.length ha
  refine ⟨by simp; omega, by unfold big; omega, fun i => ?_, rfl⟩
  rw [trArgs_get args 0 .nil (by unfold big; omega)]
  simp only [Nat.zero_le, true_and, Nat.zero_add, Nat.sub_zero]
  by_cases hi : i < args.length
  · rw [if_pos hi]
    have hg : args[i]? = some args[i] := List.getElem?_eq_getElem hi
    obtain ⟨v', h1, h2⟩ := VRL.get ha i _ hg
    rw [hg]
    have : ((⟨args'⟩ : Array Value) ++ Array.replicate (fn.ntmps - (⟨args'⟩ : Array Value).size) undef).getD i undef = v' := by
      rw [Array.getD_eq_getD_getElem?, Array.getElem?_append_left (by simp; omega)]
      simp [h1]
    rw [this]; exact h2
  · rw [if_neg hi]
    have : ((⟨args'⟩ : Array Value) ++ Array.replicate (fn.ntmps - (⟨args'⟩ : Array Value).size) undef).getD i undef = undef := by
      rw [Array.getD_eq_getD_getElem?, Array.getElem?_append_right (by simp; omega)]
      by_cases h2 : i - (⟨args'⟩ : Array Value).size < fn.ntmps - (⟨args'⟩ : Array Value).size
      · simp only [Array.getElem?_replicate, if_pos h2]; rfl
      · simp only [Array.getElem?_replicate, if_neg h2]; rfl
    rw [this, Tr.get_nil]; exact VR_undef
theorem conSR_sound {S : St} {Q : Value → Heap → Prop} {k : List KI} {dst : Option Tmp} {f : Nat} {args' : List Value}
    {ρ : Ren} {w : World} {g : AF} {gs : List AF} {R : Value → World → Prop} (hr : Rep ρ S.H w) (hf : FR ρ S.top g) (hfs : FRL ρ S.rest gs)
    (hR : ∀ (ρ' : Ren) (v v' : Value) (H' : Heap) (w' : World), Q v H' → Ren.le (ρ.cut S.base) ρ' → Fresh ρ ρ' w → VR ρ' v v' → Rep ρ' H' w' → Keep ρ w w' → R v' w') (alt : SR)
    (halt : alt.sat P Q → Calls P f ⟨args'⟩ w (fun e w' => ∃ v', e = .returned v' ∧ afterWp P k (topPost P g.fn gs R) .normal (g.a.put dst v') w')) :
    ∀ (r : ER), ConGood P ρ f args' w r → (conSR S k dst alt r).sat P Q →
      Calls P f ⟨args'⟩ w (fun e w' => ∃ v', e = .returned v' ∧ afterWp P k (topPost P g.fn gs R) .normal (g.a.put dst v') w')
  | .val v, hg, hs => by
    obtain ⟨v', hv, hc⟩ := hg
    refine hc.mono ?_
    rintro e w' ⟨rfl, hb⟩
    exact ⟨v', rfl, putFr_sound hs hf hfs (Ren.le_refl _) (Fresh.refl _ _) (hr.below hb) (Below.toKeep hb) hv hR⟩
  | .tst b x y, hg, hs => by
    simp only [conSR, SR.sat] at hs
    cases b with
    | true => exact conSR_sound hr hf hfs hR alt halt x (hg.1 rfl) (hs.1 rfl)
    | false => exact conSR_sound hr hf hfs hR alt halt y (hg.2 rfl) (hs.2 rfl)
  | .mem v H, hg, hs => halt hs
  | .skip H, hg, hs => halt hs
  | .call f args, hg, hs => halt hs
  | .no, hg, hs => halt hs
theorem hconSR_sound {S : St} {Q : Value → Heap → Prop} {k : List KI} {dst : Option Tmp} {f : Nat} {args args' : List Value}
    {ρ : Ren} {w : World} {g : AF} {gs : List AF} {R : Value → World → Prop} (ha : VRL ρ args args') (hr : Rep ρ S.H w) (hf : FR ρ S.top g) (hfs : FRL ρ S.rest gs)
    (hR : ∀ (ρ' : Ren) (v v' : Value) (H' : Heap) (w' : World), Q v H' → Ren.le (ρ.cut S.base) ρ' → Fresh ρ ρ' w → VR ρ' v v' → Rep ρ' H' w' → Keep ρ w w' → R v' w') :
    ∀ (r : ER), HGood P f args S.H r → (hconSR S k dst r).sat P Q →
      Calls P f ⟨args'⟩ w (fun e w' => ∃ v', e = .returned v' ∧ afterWp P k (topPost P g.fn gs R) .normal (g.a.put dst v') w')
  | .val v, hg, hs => by
    refine (hg ρ args' w ha hr).mono ?_
    rintro e w' ⟨ρ', u, u', H', rfl, ⟨rfl, rfl⟩, h1, h2, h3, h4, h5⟩
    exact ⟨u', rfl, putFr_sound hs hf hfs h1 h2 h4 h5 h3 hR⟩
  | .mem v H, hg, hs => by
    refine (hg ρ args' w ha hr).mono ?_
    rintro e w' ⟨ρ', u, u', H', rfl, ⟨rfl, rfl⟩, h1, h2, h3, h4, h5⟩
    exact ⟨u', rfl, putFr_sound hs hf hfs h1 h2 h4 h5 h3 hR⟩
  | .tst b x y, hg, hs => by
    simp only [hconSR, SR.sat] at hs
    cases b with
    | true => exact hconSR_sound ha hr hf hfs hR x (hg.1 rfl) (hs.1 rfl)
    | false => exact hconSR_sound ha hr hf hfs hR y (hg.2 rfl) (hs.2 rfl)
  | .skip H, hg, hs => hs.elim
  | .call f args, hg, hs => hs.elim
  | .no, hg, hs => hs.elim
theorem applyER_sound (hC : C.Ok P) {S : St} {Q : Value → Heap → Prop} {all : Array Oper} {l : List Oper} {k : List KI} {o : Oper}
    {ρ : Ren} {w : World} {g : AF} {gs : List AF} {R : Value → World → Prop} (hr : Rep ρ S.H w) (hf : FR ρ S.top g) (hfs : FRL ρ S.rest gs)
    (hR : ∀ (ρ' : Ren) (v v' : Value) (H' : Heap) (w' : World), Q v H' → Ren.le (ρ.cut S.base) ρ' → Fresh ρ ρ' w → VR ρ' v v' → Rep ρ' H' w' → Keep ρ w w' → R v' w') :
    ∀ (r : ER), Next.Good P ρ w ((execOp g.a.eval o).run P w) r → (applyER C S (.ops all l :: k) o.dst r).sat P Q →
      o.wp P g.a w (wpList P all (afterWp P k (topPost P g.fn gs R)) l) (afterWp P k (topPost P g.fn gs R))
  | .val v, hg, hs => by
    obtain ⟨v', hv, hrun⟩ := hg
    unfold Oper.wp; rw [hrun]
    exact putFr_sound hs hf hfs (Ren.le_refl _) (Fresh.refl _ _) hr (Keep.refl _ _) hv hR
  | .mem v H', hg, hs => by
    obtain ⟨ρ', v', w', h1, h2, h3, hrun, h5, h6⟩ := hg
    unfold Oper.wp; rw [hrun]
    exact putFr_sound hs hf hfs h1 h2 h5 h6 h3 hR
  | .skip H', hg, hs => by
    obtain ⟨w', hrun, h5, h6⟩ := hg
    unfold Oper.wp; rw [hrun]
    exact putFr_sound hs hf hfs (Ren.le_refl _) (Fresh.refl _ _) h5 h6 VR_undef hR
  | .call f args, hg, hs => by
    obtain ⟨args', ha, hrun⟩ := hg
    unfold Oper.wp; rw [hrun]
    simp only [applyER] at hs
    simp only [Oper.upon]
    cases ho : C.opq f with
    | true =>
      rw [ho] at hs; simp only [cond_true] at hs
      have hcon := hC.con f args ρ args' w S.H ha hr
      refine (conSR_sound hr hf hfs hR _ (fun h => hconSR_sound ha hr hf hfs hR _ (hC.hcon f S.H args) h) _ hcon hs).mono ?_
      rintro e w' ⟨v', rfl, h⟩
      exact h
    | false =>
      rw [ho] at hs; simp only [cond_false] at hs
      unfold enterFr at hs
      cases hfn : C.fn.get f with
      | none => rw [hfn] at hs; exact hs.elim
      | some fn =>
        rw [hfn] at hs; simp only at hs
        obtain ⟨hp, hbody, _⟩ := hC.fn f fn hfn
        cases hb : fn.body with
        | none => rw [hb] at hs; exact hs.elim
        | some c =>
          rw [hb] at hs; simp only at hs
          cases hcond : (Nat.ble args.length fn.ntmps && (Nat.blt fn.ntmps 1000000 && dstOk S.top.fn.ntmps o.dst)) with
          | false => rw [hcond] at hs; exact hs.elim
          | true =>
            rw [hcond] at hs; simp only [cond_true] at hs
            simp only [Bool.and_eq_true, Nat.blt_eq] at hcond
            have hl := Nat.le_of_ble_eq_true hcond.1
            have hs' : MWp P { top := { fn := fn, t := trArgs args 0 .nil, k := [.code c], dst := none }, rest := { S.top with k := .ops all l :: k, dst := o.dst } :: S.rest, H := S.H, base := S.base } Q := hs
            have hw := hs' ρ w { fn := fn, k := [.code c], dst := none, a := { tmps := (⟨args'⟩ : Array Value) ++ Array.replicate (fn.ntmps - (⟨args'⟩ : Array Value).size) undef, defers := [] } }
              ({ g with k := .ops all l :: k, dst := o.dst } :: gs) R hr ⟨rfl, rfl, rfl, enter_TR ha hl hcond.2.1⟩
              (by simp only [FRL]; exact ⟨{ g with k := .ops all l :: k, dst := o.dst }, gs, ⟨hf.fn, rfl, rfl, hf.t⟩, hfs, rfl⟩) hR
            have hcalls : Calls P f ⟨args'⟩ w (fun e w => ∃ v', e = .returned v' ∧ resumeWp P ({ g with k := .ops all l :: k, dst := o.dst } :: gs) R v' w) := by
              refine calls_of_wp hp hb ?_
              exact hw
            refine hcalls.mono ?_
            rintro e w' ⟨v', rfl, h⟩
            exact h
  | .tst b x y, hg, hs => by
    simp only [applyER, SR.sat] at hs
    cases b with
    | true => exact applyER_sound hC hr hf hfs hR x (hg.1 rfl) (hs.1 rfl)
    | false => exact applyER_sound hC hr hf hfs hR y (hg.2 rfl) (hs.2 rfl)
  | .no, hg, hs => hs.elim
theorem guard_sound {S : St} {Q : Value → Heap → Prop} {all : Array Oper} {o : Oper} {yes els : SR} {ρ : Ren} {g : AF} (hf : FR ρ S.top g)
    (hs : (guardSR all S.top.t S.top.fn.ntmps o yes els).sat P Q) :
    (Region.wanted o (yielded all g.a.tmps) = true → yes.sat P Q) ∧ (Region.wanted o (yielded all g.a.tmps) = false → els.sat P Q) := by
  unfold guardSR at hs
  unfold Region.wanted
  cases hg : o.guard with
  | none => rw [hg] at hs; exact ⟨fun _ => hs, fun h => by cases h⟩
  | some jw =>
    obtain ⟨j, want⟩ := jw
    rw [hg] at hs; simp only at hs ⊢
    have hj : (all.toList[j]?).bind (·.dst) = (all[j]?).bind (·.dst) := by simp
    rw [hj] at hs
    cases hd : (all[j]?).bind (·.dst) with
    | none =>
      rw [hd] at hs
      have hy : yielded all g.a.tmps j = none := by unfold yielded; rw [hd]; rfl
      rw [hy]
      exact ⟨fun h => (by cases h), fun _ => hs⟩
    | some d =>
      rw [hd] at hs; simp only at hs
      cases hlt : Nat.blt d S.top.fn.ntmps with
      | false => rw [hlt] at hs; exact hs.elim
      | true =>
        rw [hlt] at hs; simp only [cond_true] at hs
        have hlt' : d < g.a.tmps.size := by rw [hf.t.size]; simpa [Nat.blt_eq] using hlt
        have hv := hf.t.val d
        have hget : g.a.tmps[d]? = some (g.a.tmps.getD d undef) := by simp [hlt']
        have hy : yielded all g.a.tmps j = match g.a.tmps.getD d undef with | .bool b => some b | _ => none := by
          unfold yielded; rw [hd]; simp only [Option.bind_some]; rw [hget]; cases g.a.tmps.getD d undef <;> rfl
        rw [hy]
        revert hs hv
        generalize (S.top.t.get d).getD undef = u
        intro hs hv
        cases u with
        | bool b =>
          simp only [VR] at hv
          rw [hv]
          have hs : (bif b == want then yes else els).sat P Q := hs
          refine ⟨fun h => ?_, fun h => ?_⟩
          · have e : (b == want) = true := by simpa using h
            rw [e] at hs; exact hs
          · have e : (b == want) = false := by simpa using h
            rw [e] at hs; exact hs
        | tuple xs =>
          obtain ⟨xs⟩ := xs
          simp only [VR] at hv
          obtain ⟨xs', _, e⟩ := hv
          rw [e]
          exact ⟨fun h => (by cases h), fun _ => hs⟩
        | _ => exact hs.elim
theorem gdS_sound {S : St} {Q : Value → Heap → Prop} {o : Oper} {all : Array Oper} {kk : St → SR} (hk : ∀ t', (kk { S with top := { S.top with t := t' } }).sat P Q → MWp P { S with top := { S.top with t := t' } } Q)
    (hs : (gdS (guardOf all S.top.fn.ntmps S.top.t o) S kk).sat P Q) : MWp P S Q := by
  intro ρ w g gs R hr hf hfs hR
  have hn : S.top.fn.ntmps < big := hf.t.small
  have key : ∃ t', (∀ x, t'.get x = S.top.t.get x) ∧ (kk { S with top := { S.top with t := t' } }).sat P Q := by
    cases hg : guardOf all S.top.fn.ntmps S.top.t o with
    | none => rw [hg] at hs; exact ⟨S.top.t, fun _ => rfl, hs⟩
    | some q =>
      obtain ⟨d, want, b⟩ := q
      rw [hg] at hs
      have hd : d < S.top.fn.ntmps ∧ S.top.t.get d = some (.bool b) := by
        unfold guardOf at hg
        split at hg
        · cases hg
        · split at hg
          · cases hg
          · split at hg
            · rename_i b' hb
              cases hc : Nat.blt _ S.top.fn.ntmps with
              | false => rw [hc] at hg; cases hg
              | true =>
                rw [hc] at hg
                simp only [cond_true, Option.some.injEq, Prod.mk.injEq] at hg
                obtain ⟨rfl, _, rfl⟩ := hg
                exact ⟨by simpa [Nat.blt_eq] using hc, hb⟩
            · cases hg
      have hb : d < big := Nat.lt_trans hd.1 hn
      have same : ∀ c, c = b → ∀ x, (S.top.t.set d (some (.bool c))).get x = S.top.t.get x := by
        intro c hc x
        subst hc
        rw [Tr.get_set _ _ _ hb]
        by_cases e : x = d
        · rw [if_pos e, e, hd.2]
        · rw [if_neg e]
      simp only [gdS, SR.sat] at hs
      cases hbw : (b == want) with
      | true => exact ⟨_, same want (by cases b <;> cases want <;> simp_all), hs.1 hbw⟩
      | false => exact ⟨_, same (!want) (by cases b <;> cases want <;> simp_all), hs.2 hbw⟩
  obtain ⟨t', ht', h⟩ := key
  exact hk t' h ρ w g gs R hr ⟨hf.fn, hf.k, hf.dst, ⟨hf.t.size, hf.t.small, fun i => by show VR ρ ((t'.get i).getD undef) _; rw [ht']; exact hf.t.val i, hf.t.defers⟩⟩ hfs hR
theorem stepOps_sound (hC : C.Ok P) {S : St} {Q : Value → Heap → Prop} {all : Array Oper} {l : List Oper} {k : List KI} (hk : S.top.k = .ops all l :: k) (hs : (stepOps C S all l k).sat P Q) : MWp P S Q := by
  cases l with
  | nil =>
    refine MWp.move (S' := { S with top := { S.top with k := k } }) rfl rfl rfl rfl rfl hs ?_
    intro TP a w h; rw [hk]; exact h
  | cons o l =>
    simp only [stepOps] at hs
    refine gdS_sound (fun t' hs => ?_) hs
    have hk' : ({ S with top := { S.top with t := t' } } : St).top.k = .ops all (o :: l) :: k := hk
    generalize ({ S with top := { S.top with t := t' } } : St) = S at hs hk'
    intro ρ w g gs R hr hf hfs hR
    unfold stateWp
    rw [hf.k, hk']
    show wpList P all _ (o :: l) g.a w
    have hg := guard_sound hf hs
    unfold wpList
    cases hw : Region.wanted o (yielded all g.a.tmps) with
    | true =>
      rw [if_pos rfl]
      exact .inl (applyER_sound hC hr hf hfs hR _ (evOp_good hC.toOk hr hf.t o) (hg.1 hw))
    | false =>
      rw [if_neg (by simp)]
      exact putFr_sound (hg.2 hw) hf hfs (Ren.le_refl _) (Fresh.refl _ _) hr (Keep.refl _ _) VR_undef hR
mutual
theorem rig_one {ρ : Ren} : ∀ (v : Value), rig v = true → ∀ (x y : Value), VR ρ v x → VR ρ v y → x = y
  | .bool _, _, x, y, h1, h2 => by simp only [VR] at h1 h2; rw [h1, h2]
  | .int _ _, _, x, y, h1, h2 => by simp only [VR] at h1 h2; rw [h1, h2]
  | .string _, _, x, y, h1, h2 => by simp only [VR] at h1 h2; rw [h1, h2]
  | .pointer none, _, x, y, h1, h2 => by simp only [VR] at h1 h2; rw [h1, h2]
  | .pointer (some a), _, x, y, h1, h2 => by
    simp only [VR] at h1 h2
    obtain ⟨b, hb, rfl⟩ := h1
    obtain ⟨c, hc, rfl⟩ := h2
    rw [hb] at hc; obtain rfl := Option.some.inj hc; rfl
  | .slice none _ _, _, x, y, h1, h2 => by simp only [VR] at h1 h2; rw [h1, h2]
  | .slice (some a) n c, h, x, y, h1, h2 => by
    simp only [rig, Bool.and_eq_true, Nat.blt_eq] at h
    have hn : n ≠ 0 := by omega
    have hc : c ≠ capU := fun e => by rw [e] at h; simp [capU] at h
    obtain ⟨b, c1, hb, rfl, _, e1, _⟩ := VR_slice_addr h1 hn
    obtain ⟨b2, c2, hb2, rfl, _, e2, _⟩ := VR_slice_addr h2 hn
    rw [hb] at hb2; obtain rfl := Option.some.inj hb2
    rw [e1 hc, e2 hc]
  | .map none, _, x, y, h1, h2 => by simp only [VR] at h1 h2; rw [h1, h2]
  | .map (some r), _, x, y, h1, h2 => by
    simp only [VR] at h1 h2
    obtain ⟨b, hb, rfl⟩ := h1
    obtain ⟨c, hc, rfl⟩ := h2
    rw [hb] at hc; obtain rfl := Option.some.inj hc; rfl
  | .func fn ⟨xs⟩ ⟨ys⟩, h, x, y, h1, h2 => by
    simp only [rig, Bool.and_eq_true] at h
    simp only [VR] at h1 h2
    obtain ⟨a1, a2, p1, p2, rfl⟩ := h1
    obtain ⟨b1, b2, q1, q2, rfl⟩ := h2
    rw [rigL_one xs h.1 _ _ p1 q1, rigL_one ys h.2 _ _ p2 q2]
  | .nilFunc, _, x, y, h1, h2 => by simp only [VR] at h1 h2; rw [h1, h2]
  | .iface t v, h, x, y, h1, h2 => by
    simp only [rig] at h
    simp only [VR] at h1 h2
    obtain ⟨a1, p1, rfl⟩ := h1
    obtain ⟨b1, q1, rfl⟩ := h2
    rw [rig_one v h _ _ p1 q1]
  | .nilIface, _, x, y, h1, h2 => by simp only [VR] at h1 h2; rw [h1, h2]
  | .agg ⟨xs⟩, h, x, y, h1, h2 => by
    simp only [rig] at h
    simp only [VR] at h1 h2
    obtain ⟨a1, p1, rfl⟩ := h1
    obtain ⟨b1, q1, rfl⟩ := h2
    rw [rigL_one xs h _ _ p1 q1]
  | .tuple ⟨xs⟩, h, x, y, h1, h2 => by
    simp only [rig] at h
    simp only [VR] at h1 h2
    obtain ⟨a1, p1, rfl⟩ := h1
    obtain ⟨b1, q1, rfl⟩ := h2
    rw [rigL_one xs h _ _ p1 q1]
  | .float _ _, h, _, _, _, _ => by simp [rig] at h
  | .complex _ _ _, h, _, _, _, _ => by simp [rig] at h
  | .chan _, h, _, _, _, _ => by simp [rig] at h
theorem rigL_one {ρ : Ren} : ∀ (l : List Value), rigL l = true → ∀ (x y : List Value), VRL ρ l x → VRL ρ l y → x = y
  | [], _, x, y, h1, h2 => by simp only [VRL] at h1 h2; rw [h1, h2]
  | v :: r, h, x, y, h1, h2 => by
    simp only [rigL, Bool.and_eq_true] at h
    simp only [VRL] at h1 h2
    obtain ⟨a1, a2, p1, p2, rfl⟩ := h1
    obtain ⟨b1, b2, q1, q2, rfl⟩ := h2
    rw [rig_one v h.1 _ _ p1 q1, rigL_one r h.2 _ _ p2 q2]
end
theorem conQ_sound {S : St} {Q : Value → Heap → Prop} {k : List KI} {dst : Option Tmp} {f : Nat} {args : List Value} (hC : C.Ok P)
    {ρ : Ren} {w : World} {g : AF} {gs : List AF} {R : Value → World → Prop} (hr : Rep ρ S.H w) (hf : FR ρ S.top g) (hfs : FRL ρ S.rest gs)
    (hR : ∀ (ρ' : Ren) (v v' : Value) (H' : Heap) (w' : World), Q v H' → Ren.le (ρ.cut S.base) ρ' → Fresh ρ ρ' w → VR ρ' v v' → Rep ρ' H' w' → Keep ρ w w' → R v' w') :
    ∀ (r : ER), (∀ w', Below w.heap.size w w' → ∀ args', VRL ρ args args' → ConGood P ρ f args' w' r) → (conQR S k dst r).sat P Q →
      ∃ v, (∀ w', Below w.heap.size w w' → ∀ args', VRL ρ args args' → Calls P f ⟨args'⟩ w' (fun e w'' => e = .returned v ∧ Below w'.heap.size w' w'')) ∧ ((∃ args', VRL ρ args args') → afterWp P k (topPost P g.fn gs R) .normal (g.a.put dst v) w)
  | .val v, hg, hs => by
    simp only [conQR] at hs
    cases hrig : rig v with
    | false => rw [hrig] at hs; exact hs.elim
    | true =>
      rw [hrig] at hs; simp only [cond_true] at hs
      by_cases hex : ∃ args', VRL ρ args args'
      · obtain ⟨a0, ha0⟩ := hex
        obtain ⟨v', hv, _⟩ := hg w (Below.refl _ _) a0 ha0
        refine ⟨v', fun w' hw' args' ha => ?_, fun _ => putFr_sound hs hf hfs (Ren.le_refl _) (Fresh.refl _ _) hr (Keep.refl _ _) hv hR⟩
        obtain ⟨v'', hv2, hc⟩ := hg w' hw' args' ha
        rw [rig_one v hrig _ _ hv hv2]; exact hc
      · exact ⟨v, fun w' hw' args' ha => absurd ⟨args', ha⟩ hex, fun h => absurd h hex⟩
  | .tst b x y, hg, hs => by
    simp only [conQR, SR.sat] at hs
    cases b with
    | true => exact conQ_sound hC hr hf hfs hR x (fun w' hw' a ha => (hg w' hw' a ha).1 rfl) (hs.1 rfl)
    | false => exact conQ_sound hC hr hf hfs hR y (fun w' hw' a ha => (hg w' hw' a ha).2 rfl) (hs.2 rfl)
  | .mem v H, hg, hs => hs.elim
  | .skip H, hg, hs => hs.elim
  | .call f args, hg, hs => hs.elim
  | .no, hg, hs => hs.elim
theorem applyQ_sound (hC : C.Ok P) {S : St} {Q : Value → Heap → Prop} {all : Array Oper} {n : Nat} {l : List Oper} {k : List KI} {o : Oper}
    {ρ : Ren} {w : World} {g : AF} {gs : List AF} {R : Value → World → Prop} (hr : Rep ρ S.H w) (hf : FR ρ S.top g) (hfs : FRL ρ S.rest gs)
    (hR : ∀ (ρ' : Ren) (v v' : Value) (H' : Heap) (w' : World), Q v H' → Ren.le (ρ.cut S.base) ρ' → Fresh ρ ρ' w → VR ρ' v v' → Rep ρ' H' w' → Keep ρ w w' → R v' w') :
    ∀ (r : ER) (free : Bool), (free = true → UGood ρ (fun W => ∀ k : Nat, k < w.heap.size → W.heap[k]? = w.heap[k]?) (fun W => (execOp g.a.eval o).run P W) r) → (∀ w', Below w.heap.size w w' → Next.Good P ρ w' ((execOp g.a.eval o).run P w') r) → (applyQ C S (.opsQ all n l :: k) o.dst free r).sat P Q →
      o.quiet P g.a (Below w.heap.size w) (wpQuiet P all (Below w.heap.size w) (fun a' => ∀ w', Below w.heap.size w w' → wpList P all (afterWp P k (topPost P g.fn gs R)) (all.toList.drop n) a' w') l)
  | .val v, free, hu, hg, hs => by
    simp only [applyQ] at hs
    cases hfr : free with
    | true =>
      rw [hfr] at hs; simp only [Bool.true_or, cond_true] at hs
      obtain ⟨v', hv, hrun⟩ := hu hfr
      refine ⟨v', fun w' hw' => ?_, putFr_sound hs hf hfs (Ren.le_refl _) (Fresh.refl _ _) hr (Keep.refl _ _) hv hR⟩
      unfold Oper.quietAt
      have h1 : (execOp g.a.eval o).run P w' = .ok (.value v') w' := hrun w' (fun k hk => hw'.block k hk)
      rw [h1]
      exact ⟨rfl, rfl⟩
    | false =>
    rw [hfr] at hs; simp only [Bool.false_or] at hs
    cases hrig : rig v with
    | false => rw [hrig] at hs; exact hs.elim
    | true =>
      rw [hrig] at hs; simp only [cond_true] at hs
      obtain ⟨v', hv, hrun⟩ := hg w (Below.refl _ _)
      refine ⟨v', fun w' hw' => ?_, putFr_sound hs hf hfs (Ren.le_refl _) (Fresh.refl _ _) hr (Keep.refl _ _) hv hR⟩
      obtain ⟨v'', hv2, hrun2⟩ := hg w' hw'
      unfold Oper.quietAt
      rw [hrun2]
      exact ⟨rfl, (rig_one v hrig _ _ hv2 hv)⟩
  | .call f args, free, hu, hg, hs => by
    simp only [applyQ] at hs
    cases ho : C.opq f with
    | false => rw [ho] at hs; exact hs.elim
    | true =>
      rw [ho] at hs; simp only [cond_true] at hs
      obtain ⟨v, h1, h2⟩ := conQ_sound hC hr hf hfs hR _ (fun w' hw' args' ha => hC.con f args ρ args' w' S.H ha (hr.below hw')) hs
      obtain ⟨a0, ha0, _⟩ := hg w (Below.refl _ _)
      refine ⟨v, fun w' hw' => ?_, h2 ⟨a0, ha0⟩⟩
      obtain ⟨args', ha, hrun⟩ := hg w' hw'
      unfold Oper.quietAt
      rw [hrun]
      refine ⟨rfl, (h1 w' hw' args' ha).mono ?_⟩
      rintro e w'' ⟨rfl, hb⟩
      exact ⟨rfl, hw'.trans (hb.mono hw'.size)⟩
  | .tst b x y, free, hu, hg, hs => by
    simp only [applyQ, SR.sat] at hs
    cases b with
    | true => exact applyQ_sound hC hr hf hfs hR x free (fun e => (hu e).1 rfl) (fun w' hw' => (hg w' hw').1 rfl) (hs.1 rfl)
    | false => exact applyQ_sound hC hr hf hfs hR y free (fun e => (hu e).2 rfl) (fun w' hw' => (hg w' hw').2 rfl) (hs.2 rfl)
  | .mem v H', free, hu, hg, hs => hs.elim
  | .skip H', free, hu, hg, hs => hs.elim
  | .no, free, hu, hg, hs => hs.elim
theorem stepOpsQ_sound (hC : C.Ok P) {S : St} {Q : Value → Heap → Prop} {all : Array Oper} {n : Nat} {l : List Oper} {k : List KI} (hk : S.top.k = .opsQ all n l :: k) (hs : (stepOpsQ C S all n l k).sat P Q) : MWp P S Q := by
  cases l with
  | nil =>
    intro ρ w g gs R hr hf hfs hR
    unfold stateWp
    rw [hf.k, hk]
    show ∀ w', Below w.heap.size w w' → _
    intro w' hw'
    have hs' : MWp P { S with top := { S.top with k := .ops all (all.toList.drop n) :: k } } Q := hs
    exact hs' ρ w' { g with k := .ops all (all.toList.drop n) :: k } gs R (hr.below hw') ⟨hf.fn, rfl, hf.dst, hf.t⟩ hfs
      (fun ρ'' u u' H'' w'' hq h1 h2 h3 h4 h5 => hR ρ'' u u' H'' w'' hq h1 (Fresh.trans hw'.size (Fresh.refl _ _) h2) h3 h4 (Keep.trans (Fresh.refl _ _) (Below.toKeep hw') h5))
  | cons o l =>
    simp only [stepOpsQ] at hs
    refine gdS_sound (fun t' hs => ?_) hs
    have hk' : ({ S with top := { S.top with t := t' } } : St).top.k = .opsQ all n (o :: l) :: k := hk
    generalize ({ S with top := { S.top with t := t' } } : St) = S at hs hk'
    intro ρ w g gs R hr hf hfs hR
    unfold stateWp
    rw [hf.k, hk']
    have hg := guard_sound hf hs
    show wpQuiet P all _ _ (o :: l) g.a
    unfold wpQuiet
    cases hw : Region.wanted o (yielded all g.a.tmps) with
    | true =>
      rw [if_pos rfl]
      exact applyQ_sound hC hr hf hfs hR _ _ (fun e => evOp_free hC.toOk hr hf.t o e) (fun w' hw' => evOp_good hC.toOk (hr.below hw') hf.t o) (hg.1 hw)
    | false =>
      rw [if_neg (by simp)]
      exact putFr_sound (hg.2 hw) hf hfs (Ren.le_refl _) (Fresh.refl _ _) hr (Keep.refl _ _) VR_undef hR
theorem gxSR_sat {S : St} {Q : Value → Heap → Prop} {ops : Array Oper} {k : List KI} {alt : SR} : ∀ (x : GX), (gxSR S ops k alt x).sat P Q → alt.sat P Q ∨ x.sat ops (fun t H => MWp P { S with top := { S.top with t := t, k := k }, H := H } Q)
  | .fin t H rs, hs => by
    simp only [gxSR] at hs
    cases hc : checkX ops rs with
    | false => rw [hc] at hs; exact .inl hs
    | true =>
      rw [hc] at hs; simp only [cond_true, forceTr_eq forceO_eq, forceTr_eq forceLO_eq, forceN_eq] at hs
      exact .inr ⟨hc, hs⟩
  | .tst b x y, hs => by
    cases b with
    | true => exact (gxSR_sat x (hs.1 rfl)).imp id (fun h => ⟨(fun _ => h), (fun h => (by cases h))⟩)
    | false => exact (gxSR_sat y (hs.2 rfl)).imp id (fun h => ⟨(fun h => (by cases h)), (fun _ => h)⟩)
  | .no, hs => .inl hs
theorem orNo_sat {Q : Value → Heap → Prop} {a b : SR} (h : (orNo a b).sat P Q) : a.sat P Q ∨ b.sat P Q := by
  cases a <;> first | exact .inr h | exact .inl h
theorem enterX_sound {src : Src} (hC : C.Ok P) {S : St} {Q : Value → Heap → Prop} {id : Nat} {ops : Array Oper} {k : List KI} {alt : SR} (hk : S.top.k = .code (.region id ops true) :: k) (halt : alt.sat P Q → MWp P S Q) (hs : (enterX C src S ops k alt).sat P Q) : MWp P S Q := by
  intro ρ w g gs R hr hf hfs hR
  unfold stateWp
  rw [hf.k, hk]
  show (Code.region id ops true).wp P _ g.a w
  unfold enterX at hs
  cases hl0 : Nat.beq S.H.lock 0 with
  | false =>
    rw [hl0] at hs
    have := halt hs ρ w g gs R hr hf hfs hR
    unfold stateWp at this; rw [hf.k, hk] at this; exact this
  | true =>
  rw [hl0] at hs; simp only [cond_true] at hs
  rcases gxSR_sat _ hs with hs | hs
  · have := halt hs ρ w g gs R hr hf hfs hR
    unfold stateWp at this; rw [hf.k, hk] at this; exact this
  refine region_any hC (Nat.eq_of_beq_eq_true hl0) hs hr hf.t (fun t' H' ρ' a' w' hm hle hfr hkp hr' ht' => ?_)
  have := hm ρ' w' { g with k := k, a := a' } gs R hr' ⟨hf.fn, rfl, hf.dst, ht'⟩ (FRL.mono hle hfs)
    (fun ρ'' v v' H'' w'' hq h1 h2 h3 h4 h5 => hR ρ'' v v' H'' w'' hq (Ren.le_trans (Ren.cut_le hle _) h1) (Fresh.trans hkp.size hfr h2) h3 h4 (Keep.trans hfr hkp h5))
  exact this
theorem enterL_sound (hC : C.Ok P) {S : St} {Q : Value → Heap → Prop} {id : Nat} {ops : Array Oper} {k : List KI} (hk : S.top.k = .code (.region id ops true) :: k) (hs : (enterL C S ops k).sat P Q) : MWp P S Q := by
  intro ρ w g gs R hr hf hfs hR
  unfold enterL at hs
  unfold stateWp
  rw [hf.k, hk]
  show (Code.region id ops true).wp P _ g.a w
  have hR' : ∀ (ρ' : Ren) (v v' : Value) (H' : Heap) (w' : World), Q v H' → Ren.le (ρ.cut S.base) ρ' → Fresh ρ ρ' w.drew → VR ρ' v v' → Rep ρ' H' w' → Keep ρ w.drew w' → R v' w' :=
    fun ρ'' u u' H'' w'' hq h1 h2 h3 h4 h5 => hR ρ'' u u' H'' w'' hq h1 h2 h3 h4 (Keep.trans (Fresh.refl _ _) (Keep.drew _ _) h5)
  cases hn : Nat.beq (quietN C ops.toList) ops.size with
  | true =>
    rw [hn] at hs; simp only [cond_true] at hs
    cases hB : Region.lexB .any ops with
    | false => rw [hB] at hs; exact hs.elim
    | true =>
      rw [hB] at hs; simp only [cond_true] at hs
      have hs' : MWp P { S with top := { S.top with k := .opsQ ops ops.size ops.toList :: k } } Q := hs
      have := hs' ρ w.drew { g with k := .opsQ ops ops.size ops.toList :: k } gs R hr.drew ⟨hf.fn, rfl, hf.dst, hf.t⟩ hfs hR'
      refine wp_region_quiet (C := Below w.drew.heap.size w.drew) hC.fol hB (Below.refl _ _) ?_
      have h2 : wpQuiet P ops (Below w.drew.heap.size w.drew) (fun a' => ∀ w', Below w.drew.heap.size w.drew w' → wpList P ops (afterWp P k (topPost P g.fn gs R)) (ops.toList.drop ops.size) a' w') ops.toList g.a := this
      have e : ops.toList.drop ops.size = [] := by simp
      rw [e] at h2
      exact h2
  | false =>
    rw [hn] at hs; simp only [cond_false] at hs
    cases hB : Region.lexTailB .any ops (quietN C ops.toList) with
    | false => rw [hB] at hs; exact hs.elim
    | true =>
      rw [hB] at hs; simp only [cond_true] at hs
      have hs' : MWp P { S with top := { S.top with k := .opsQ ops (quietN C ops.toList) (ops.toList.take (quietN C ops.toList)) :: k } } Q := hs
      have := hs' ρ w.drew { g with k := .opsQ ops (quietN C ops.toList) (ops.toList.take (quietN C ops.toList)) :: k } gs R hr.drew ⟨hf.fn, rfl, hf.dst, hf.t⟩ hfs hR'
      exact region_quiet_tail (CW := Below w.drew.heap.size w.drew) _ hC.fol hB (Below.refl _ _) this
theorem enterQ_sound (hC : C.Ok P) {S : St} {Q : Value → Heap → Prop} {id : Nat} {ops : Array Oper} {k : List KI} (hk : S.top.k = .code (.region id ops true) :: k) (hs : (enterQ C S ops k).sat P Q) : MWp P S Q := by
  unfold enterQ at hs
  cases hl : C.lex with
  | true => rw [hl] at hs; exact enterL_sound hC hk hs
  | false => rw [hl] at hs; exact enterX_sound hC hk (fun h => (orNo_sat h).elim (enterL_sound hC hk) (fun h => enterX_sound (alt := .no) hC hk (fun h => False.elim h) h)) hs
theorem run_res (hE : C.toEnv.Ok P) (hr : Rep ρ H w) {n : Nat} {t : Tr Value} {a : Act} (ht : TR ρ n t a) : ∀ (rs : List ResultVar) (l : List Value), evRes C.toEnv H t rs = some l →
    ∃ l', VRL ρ l l' ∧ (rs.mapM fun | .tmp t => pure (a.tmps.getD t undef) | .cell q t => do loadVar t (← asAddr (a.tmps.getD q undef)) : Sem (List Value)).run P w = .ok l' w
  | [], l, h => by simp only [evRes, Option.some.injEq] at h; subst h; exact ⟨[], by simp [VRL], by simp⟩
  | .tmp i :: rs, l, h => by
    simp only [evRes] at h
    cases h2 : evRes C.toEnv H t rs with
    | none => rw [h2] at h; simp at h
    | some r =>
      rw [h2] at h; simp only [Option.some.injEq] at h; subst h
      obtain ⟨l', h3, h4⟩ := run_res hE hr ht rs r h2
      refine ⟨a.tmps.getD i undef :: l', by simp only [VRL]; exact ⟨_, _, ht.val i, h3, rfl⟩, ?_⟩
      simp only [List.mapM_cons, Sem.run_bind, Sem.run_pure, Result.andThen_ok, h4]
  | .cell i ty :: rs, l, h => by
    simp only [evRes] at h
    cases h1 : evLoad C.toEnv H ty ((t.get i).getD undef) with
    | val v =>
      cases h2 : evRes C.toEnv H t rs with
      | none => rw [h1, h2] at h; simp at h
      | some r =>
        rw [h1, h2] at h; simp only [Option.some.injEq] at h; subst h
        obtain ⟨l', h3, h4⟩ := run_res hE hr ht rs r h2
        have hg := evLoad_good hE hr ty (ht.val i)
        rw [h1] at hg
        obtain ⟨v', hv, hrun⟩ := hg
        have hp : ∃ q, a.tmps.getD i undef = .pointer (some q) := by
          have hv := ht.val i
          unfold evLoad at h1
          split at h1
          · rename_i e; rw [e] at hv; simp only [VR] at hv; obtain ⟨b, _, e2⟩ := hv; exact ⟨_, e2⟩
          · cases h1
        obtain ⟨q, hq⟩ := hp
        rw [hq] at hrun
        have hrun' : (loadVar ty q).run P w = .ok v' w := by
          simp only [valued, Instr.loadAt, Instr.sureAddr, Sem.run_bind, Sem.run_pure, Result.andThen_ok] at hrun
          cases hl : (loadVar ty q).run P w with
          | ok x w' => rw [hl] at hrun; simp only [Result.andThen_ok] at hrun; injection hrun with e1 e2; injection e1 with e1; rw [e1, e2]
          | halt x w' => rw [hl] at hrun; cases hrun
        refine ⟨v' :: l', by simp only [VRL]; exact ⟨_, _, hv, h3, rfl⟩, ?_⟩
        have e : (do loadVar ty (← asAddr (a.tmps.getD i undef)) : Sem Value).run P w = .ok v' w := by rw [hq]; simp [asAddr, hrun']
        rw [List.mapM_cons]
        simp only [Sem.run_bind] at e ⊢
        rw [e]
        simp only [Result.andThen_ok, h4, Sem.run_pure]
    | _ => rw [h1] at h; simp at h
theorem one_or_all {l l' : List Value} (h : VRL ρ l l') : VR ρ (oneOrAll l) (if h : (⟨l'⟩ : Array Value).size = 1 then (⟨l'⟩ : Array Value)[0] else .tuple ⟨l'⟩) := by
  cases l with
  | nil => simp only [VRL] at h; subst h; simp [oneOrAll, VR, VRL]
  | cons v r =>
    cases r with
    | nil => simp only [VRL] at h; obtain ⟨v', r', h1, rfl, rfl⟩ := h; simpa [oneOrAll] using h1
    | cons u r =>
      have h0 := h
      simp only [VRL] at h; obtain ⟨v', r', h1, ⟨u', r'', h2, h3, rfl⟩, rfl⟩ := h
      simp only [oneOrAll]
      rw [dif_neg (by simp)]
      simp only [VR]
      exact ⟨_, h0, rfl⟩
theorem stepRet_sound (hC : C.Ok P) {S : St} {Q : Value → Heap → Prop} (hs : (stepRet C S).sat P Q) {ρ : Ren} {w : World} {g : AF} {gs : List AF} {R : Value → World → Prop}
    (hr : Rep ρ S.H w) (hf : FR ρ S.top g) (hfs : FRL ρ S.rest gs)
    (hR : ∀ (ρ' : Ren) (v v' : Value) (H' : Heap) (w' : World), Q v H' → Ren.le (ρ.cut S.base) ρ' → Fresh ρ ρ' w → VR ρ' v v' → Rep ρ' H' w' → Keep ρ w w' → R v' w') :
    topPost P g.fn gs R .ret g.a w ∧ topPost P g.fn gs R .normal g.a w := by
  unfold stepRet at hs
  cases hl : evRes C.toEnv S.H S.top.t S.top.fn.results.toList with
  | none => rw [hl] at hs; exact hs.elim
  | some l =>
    rw [hl] at hs; simp only at hs
    obtain ⟨l', h1, h2⟩ := run_res hC.toOk hr hf.t _ l hl
    have hres : (results g.fn g.a.tmps).run P w = .ok (if h : (⟨l'⟩ : Array Value).size = 1 then (⟨l'⟩ : Array Value)[0] else .tuple ⟨l'⟩) w := by
      unfold results
      rw [hf.fn]
      simp only [Sem.run_bind]
      rw [Array.mapM_eq_mapM_toList]
      have hb : ∀ (x : Sem (List Value)), x.run P w = .ok l' w → (List.toArray <$> x).run P w = .ok ⟨l'⟩ w := by
        intro x hx
        show (x >>= (Sem.pure ∘ List.toArray)).run P w = _
        rw [Sem.run_bind, hx]; rfl
      exact congrArg (fun r : Result (Array Value) => r.andThen fun vs w' => Sem.run P (pure (if h : vs.size = 1 then vs[0] else Value.tuple vs) : Sem Value) w') (hb _ h2)
    have hv := one_or_all h1
    have hfin : resumeWp P gs R (if h : (⟨l'⟩ : Array Value).size = 1 then (⟨l'⟩ : Array Value)[0] else .tuple ⟨l'⟩) w := by
      cases hrest : S.rest with
      | nil =>
        rw [hrest] at hs hfs
        simp only [FRL] at hfs; subst hfs
        exact hR ρ _ _ S.H w hs (Ren.le_cut _ _) (Fresh.refl _ _) hv hr (Keep.refl _ _)
      | cons f r =>
        rw [hrest] at hs hfs
        simp only [FRL] at hfs
        obtain ⟨g2, r2, hg2, hr2, rfl⟩ := hfs
        simp only at hs
        cases hd : dstOk f.fn.ntmps f.dst with
        | false => rw [hd] at hs; exact hs.elim
        | true =>
          rw [hd] at hs
          have hs' : MWp P { top := { f with t := putT f.t f.dst (oneOrAll l) }, rest := r, H := S.H, base := S.base } Q := hs
          have := hs' ρ w { g2 with a := g2.a.put g2.dst (if h : (⟨l'⟩ : Array Value).size = 1 then (⟨l'⟩ : Array Value)[0] else .tuple ⟨l'⟩) } r2 R hr
            ⟨hg2.fn, hg2.k, hg2.dst, by rw [hg2.dst]; exact hg2.t.put hd hv⟩ hr2 hR
          exact this
    exact ⟨⟨hf.t.defers, _, hres, _, rfl, hfin⟩, ⟨hf.t.defers, _, hres, _, rfl, hfin⟩⟩
theorem step_sound (hC : C.Ok P) {S : St} {Q : Value → Heap → Prop} (hs : (step C S).sat P Q) : MWp P S Q := by
  unfold step at hs
  split at hs
  · rename_i hk
    intro ρ w g gs R hr hf hfs hR
    unfold stateWp
    rw [hf.k, hk]
    exact (stepRet_sound hC hs hr hf hfs hR).2
  · rename_i c k hk
    unfold stepCode at hs
    split at hs
    · refine MWp.move (S' := { S with top := { S.top with k := k } }) rfl rfl rfl rfl rfl hs ?_
      intro TP a w h; rw [hk]; exact wp_skip h
    · refine MWp.move (S' := { S with top := { S.top with k := k } }) rfl rfl rfl rfl rfl hs ?_
      intro TP a w h; rw [hk]; exact wp_label h
    · rename_i x y
      refine MWp.move (S' := { S with top := { S.top with k := .code x :: .code y :: k } }) rfl rfl rfl rfl rfl hs ?_
      intro TP a w h; rw [hk]
      exact wp_seq (wp_mono h (then_after (fun _ e => by cases e) (fun _ e => by cases e) _ (fun _ _ h => h)))
    · rename_i x a b
      split at hs
      · rename_i q hx
        simp only [SR.sat] at hs
        intro ρ w g gs R hr hf hfs hR
        unfold stateWp
        rw [hf.k, hk]
        have hv := evx_VR hf.t hx
        simp only [VR] at hv
        show (Code.cond x a b).wp P _ g.a w
        refine wp_cond_split hv (fun e => ?_) (fun e => ?_)
        · have h1 : MWp P { S with top := { S.top with k := .code a :: k } } Q := hs.1 e
          exact h1 ρ w { g with k := .code a :: k } gs R hr ⟨hf.fn, rfl, hf.dst, hf.t⟩ hfs hR
        · have h1 : MWp P { S with top := { S.top with k := .code b :: k } } Q := hs.2 e
          exact h1 ρ w { g with k := .code b :: k } gs R hr ⟨hf.fn, rfl, hf.dst, hf.t⟩ hfs hR
      · exact hs.elim
    · rename_i id a
      refine MWp.move (S' := { S with top := { S.top with k := .code a :: .inBlock id :: k } }) rfl rfl rfl rfl rfl hs ?_
      intro TP a w h; rw [hk]
      exact wp_block (wp_mono h block_after)
    · rename_i a
      refine MWp.move (S' := { S with top := { S.top with k := .code a :: .inLoop a :: k } }) rfl rfl rfl rfl rfl hs ?_
      intro TP a w h; rw [hk]
      exact loop_of (wp_mono h (then_after (fun _ e => by cases e) (fun _ e => by cases e) _ (fun _ _ h => h)))
    · rename_i id
      split at hs
      · rename_i k' hx
        refine MWp.move (S' := { S with top := { S.top with k := k' } }) rfl rfl rfl rfl rfl hs ?_
        intro TP a w h; rw [hk]
        exact wp_exit (afterWp_exit k hx h)
      · exact hs.elim
    · intro ρ w g gs R hr hf hfs hR
      unfold stateWp
      rw [hf.k, hk]
      exact wp_ret (afterWp_ret k (stepRet_sound hC hs hr hf hfs hR).1)
    · rename_i a
      refine MWp.move (S' := { S with top := { S.top with k := .code a :: .inScope a :: k } }) rfl rfl rfl rfl rfl hs ?_
      intro TP a w h; rw [hk]
      exact scope_of h
    · rename_i l
      split at hs
      · rename_i k' hx
        refine MWp.move (S' := { S with top := { S.top with k := k' } }) rfl rfl rfl rfl rfl hs ?_
        intro TP a w h; rw [hk]
        exact wp_goto (afterWp_goto k hx h)
      · exact hs.elim
    · rename_i id ops
      refine MWp.move (S' := { S with top := { S.top with k := .ops ops ops.toList :: k } }) rfl rfl rfl rfl rfl hs ?_
      intro TP a w h; rw [hk]
      exact wp_region_list h
    · exact enterQ_sound hC hk hs
    · exact hs.elim
  · rename_i id k hk
    refine MWp.move (S' := { S with top := { S.top with k := k } }) rfl rfl rfl rfl rfl hs ?_
    intro TP a w h; rw [hk]; exact h
  · rename_i id k hk
    refine MWp.move (S' := { S with top := { S.top with k := k } }) rfl rfl rfl rfl rfl hs ?_
    intro TP a w h; rw [hk]; exact h
  · rename_i c k hk
    refine MWp.move (S' := { S with top := { S.top with k := .code c :: .inLoop c :: k } }) rfl rfl rfl rfl rfl hs ?_
    intro TP a w h; rw [hk]
    exact loopWp_of (wp_mono h (then_after (fun _ e => by cases e) (fun _ e => by cases e) _ (fun _ _ h => h)))
  · rename_i all l k hk
    exact stepOps_sound hC hk hs
  · rename_i all n l k hk
    exact stepOpsQ_sound hC hk hs
end
end Go.Ly
end
