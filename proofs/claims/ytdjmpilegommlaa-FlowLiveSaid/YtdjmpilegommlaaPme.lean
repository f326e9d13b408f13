/- Part 5 of the texts that the law needs, laid together. By program (pack.py). -/
import Derived.Test.YtdjmpilegommlaaPmc
import Derived.Test.YtdjmpilegommlaaPmd
import Derived.KernelRfl
import Derived.OpenShut
set_option linter.unusedVariables false
set_option linter.unusedSimpArgs false
noncomputable section
namespace Go.Ly
open Go.RowKit
theorem VRL_get {ρ : Ren} : ∀ {l l' : List Value}, VRL ρ l l' → ∀ {i : Nat} {v : Value}, l[i]? = some v → ∃ v', l'[i]? = some v' ∧ VR ρ v v'
  | [], _, _, i, v, hi => by simp at hi
  | x :: r, l', h, i, v, hi => by
    simp only [VRL] at h
    obtain ⟨x', r', h1, h2, rfl⟩ := h
    cases i with
    | zero => simp at hi; subst hi; exact ⟨x', rfl, h1⟩
    | succ i =>
      obtain ⟨v', h3, h4⟩ := VRL_get h2 (i := i) (by simpa using hi)
      exact ⟨v', by simpa using h3, h4⟩
theorem VRL_length {ρ : Ren} : ∀ {l l' : List Value}, VRL ρ l l' → l'.length = l.length
  | [], _, h => by simp only [VRL] at h; subst h; rfl
  | x :: r, l', h => by
    simp only [VRL] at h
    obtain ⟨x', r', h1, h2, rfl⟩ := h
    simp [VRL_length h2]
end Go.Ly
namespace Go.Ly
open Go.RowKit
end Go.Ly
namespace Go.Ly
open Go.RowKit
section
variable {P : Program} {ρ : Ren} {H : Heap} {w w' : World}
theorem calls_pair {f : FuncId} {args0 args' : List Value} {os : List (Option LO)} {ρ1 : Ren} {r n : Nat} {g : Nat → Value} {t : TypeId} {x : Value} {c : List Value} (hx : plain x = true) (hc : c.all cst = true) (hn : n ≤ c.length) (hg : ∀ e, e < n → c[e]? = some (g e))
    (h : LCalls P f args0 (mkH os) (fun u K => u = .tuple ⟨[sl r n, x]⟩ ∧ K.get r = some (.row c t 1) ∧ K.lock = 0)) (ha : VRL ρ1 args0 args') (hr1 : Rep ρ1 (mkH os) w) (hro : ∀ i, ρ1.ro i = true)
    (hr : Rep ρ H w) (hb : H.next + 1 < big) :
    Calls P f ⟨args'⟩ w (fun e w' => ∃ ρ' v v' H', e = .returned v' ∧ (v = .tuple ⟨[sl H.next n, x]⟩ ∧ H' = H.new (.fn 1 (fun e _ => g e) n t)) ∧ Ren.le ρ ρ' ∧ Fresh ρ ρ' w ∧ VR ρ' v v' ∧ Rep ρ' H' w' ∧ Keep ρ w w') := by
  refine (h ρ1 args' w ha hr1).mono ?_
  rintro e w' ⟨ρ2, u, u', K, rfl, ⟨rfl, hK, hlk⟩, h1, h2, h3, h4, h5⟩
  have hbel : Below w.heap.size w w' := ⟨h5.os, h5.tape, h5.output, h5.size, fun k hk => h5.block k hk (fun i _ => hro i)⟩
  obtain ⟨q1, b, o', q2, q3, q4⟩ := h4.obj r _ hK rfl
  have hro2 : ρ2.ro r = false := q1 (by rw [hlk]; exact Nat.zero_le _)
  have hbnew : w.heap.size ≤ b := by
    rcases h2 r b q2 with h6 | ⟨j, _, h6⟩
    · exact h6
    · have := h6 hro2; rw [hro j] at this; cases this
  have hrB := hr.below hbel
  have hnone : ∀ i, ρ i ≠ some b := fun i e => by have := (hr.dom i b e).2; omega
  obtain ⟨z1, c', d', z2, z3, z4⟩ := q4
  have hlen := VRL_length z2
  have hOR : OR (ρ.ext H.next b (ρ2.cap r) 1) H.next (.fn 1 (fun e _ => g e) n t) o' := by
    refine ⟨by simp [Ren.ext], by simp [Ren.ext], c'.take n, c'.drop n ++ d', by rw [z3, ← List.append_assoc, List.take_append_drop], by rw [List.length_take, hlen]; omega, by simp [Ren.ext]; omega, ⟨fun e j he hj => ?_, fun e j he hj => ?_⟩⟩
    · obtain ⟨v', k1, k2⟩ := VRL_get z2 (hg e he)
      refine ⟨v', ?_, ?_⟩
      · have : 0 + (e * 1 + j) = e := by omega
        rw [this, List.getElem?_take, if_pos he]; exact k1
      · have hcst : cst (g e) = true := List.all_eq_true.1 hc _ (List.mem_of_getElem? (hg e he))
        exact VR_cst hcst k2
    · exact List.all_eq_true.1 hc _ (List.mem_of_getElem? (hg e he))
  have hRep := hrB.extNew (k := ρ2.cap r) (wd := 1) hb rfl (h4.dom r b q2).2 hnone q3 hOR (by
    cases hf : fixed b with
    | none => rfl
    | some o => have := hr.fix.lt hf; omega)
  refine ⟨ρ.ext H.next b (ρ2.cap r) 1, .tuple ⟨[sl H.next n, x]⟩, u', _, rfl, ⟨rfl, rfl⟩, hr.ext_le _ _ _, fun i y hy => ?_, ?_, hRep, Below.toKeep hbel⟩
  · simp only [Ren.ext] at hy
    split at hy
    · simp at hy; subst hy; exact .inl hbnew
    · rename_i e; exact .inr ⟨i, hy, by simp [Ren.ext, e]⟩
  · simp only [VR, VRL, sl] at h3 ⊢
    obtain ⟨l', ⟨s', r', ⟨a', c2, rfl, y1, y2, y3⟩, ⟨x', e', hx', he', rfl⟩, rfl⟩, rfl⟩ := h3
    subst he'
    have := plain_eq hx hx'
    subst this
    refine ⟨_, ⟨_, _, ⟨a', c2, rfl, y1, fun hc => absurd rfl hc, fun hN => ?_⟩, ⟨_, _, plain_VR _ hx, rfl, rfl⟩, rfl⟩, rfl⟩
    obtain ⟨b', x1, x2, x3⟩ := y3 hN
    have hbb : b' = b := by
      have x1' : ρ2 r = some b' := x1
      rw [q2] at x1'; simp at x1'; exact x1'.symm
    subst hbb
    refine ⟨b', by simp [Ren.ext], ?_, ?_⟩
    · rw [x2]; simp [Ren.at, Ren.ext, z1]
    · intro hc _
      have := x3 rfl (by simp [Ren.at, z1])
      simpa [Ren.ext] using this
structure PairA where
  ok : Bool
  n : Nat
  g : Nat → Int
  x : Value
def rowsPair (k : Nat) (mk : Nat → (Nat → Nat → Value) → List Value → PairA) (t : TypeId) (H : Heap) (args : List Value) : ER :=
  match args with
  | x :: rest =>
    match srcR H k x with
    | some (g1, u) => bif Nat.beq H.lock 0 && Nat.blt (H.next + 1) 2147483000 then
        .tst (g1 && (u.csts && (plainL rest && (mk u.n (u.fun k) rest).ok)))
          (.tst (Nat.beq (mk u.n (u.fun k) rest).n 0) (.val (.tuple ⟨[.slice none 0 0, (mk u.n (u.fun k) rest).x]⟩))
            (.mem (.tuple ⟨[sl H.next (mk u.n (u.fun k) rest).n, (mk u.n (u.fun k) rest).x]⟩) (H.new (.fn 1 (fun e _ => .int .i64 ((mk u.n (u.fun k) rest).g e)) (mk u.n (u.fun k) rest).n t)))) .no else .no
    | none => .no
  | _ => .no
theorem rowsPair_good {k : Nat} {t : TypeId} {f : FuncId} {mk : Nat → (Nat → Nat → Value) → List Value → PairA} (hp : ∀ n G r, plain (mk n G r).x = true)
    (hS : ∀ n G r, plainL r = true → (mk n G r).ok = true → (mk n G r).n ≠ 0 → ∃ b c, LCalls P f (sls 0 n :: r) (mkH [some (.arg k G n)]) (fun u K => u = .tuple ⟨[sl b (mk n G r).n, (mk n G r).x]⟩ ∧ K.get b = some (.row c t 1) ∧ K.lock = 0) ∧
      (mk n G r).n ≤ c.length ∧ (∀ e, e < (mk n G r).n → c[e]? = some (.int .i64 ((mk n G r).g e))) ∧ c.all cst = true)
    (hZ : ∀ n G r, plainL r = true → (mk n G r).ok = true → (mk n G r).n = 0 → LCalls P f (sls 0 n :: r) (mkH [some (.arg k G n)]) (fun u _ => u = .tuple ⟨[.slice none 0 0, (mk n G r).x]⟩))
    (hN : ∀ G r, plainL r = true → (mk 0 G r).ok = true → (mk 0 G r).n = 0 ∧ LCalls P f (.slice none 0 0 :: r) (mkH []) (fun u _ => u = .tuple ⟨[.slice none 0 0, (mk 0 G r).x]⟩))
    (H : Heap) (args : List Value) : HGood P f args H (rowsPair k mk t H args) := by
  unfold rowsPair
  split
  · rename_i x rest
    cases h1 : srcR H k x with
    | none => exact trivial
    | some gu =>
      obtain ⟨g1, u⟩ := gu
      simp only
      cases hb0 : (Nat.beq H.lock 0 && Nat.blt (H.next + 1) 2147483000) with
      | false => exact trivial
      | true =>
        rw [Bool.and_eq_true] at hb0
        have hb : H.next + 1 < big := by have := hb0.2; unfold big; simpa [Nat.blt_eq] using this
        refine ⟨fun hg => ⟨fun h0 => ?_, fun h0 => ?_⟩, fun _ => trivial⟩
        all_goals
          simp only [Bool.and_eq_true] at hg
          obtain ⟨e1, e2, e3, e4⟩ := hg
          intro ρ args' w ha hr
          haveI := hr.fix.w
          simp only [VRL] at ha
          obtain ⟨x', r', hx, hr', rfl⟩ := ha
          obtain rfl := plainL_eq e3 hr'
        · have h0 := Nat.eq_of_beq_eq_true h0
          have hpt : plain (.tuple ⟨[.slice none 0 0, (mk u.n (u.fun k) r').x]⟩) = true := by simp only [plain, plainL, hp, Bool.and_self]
          have fin : ∀ {a' : List Value}, Calls P f ⟨a'⟩ w (fun e w' => e = .returned (.tuple ⟨[.slice none 0 0, (mk u.n (u.fun k) r').x]⟩) ∧ Below w.heap.size w w') → Calls P f ⟨a'⟩ w (fun e w' => ∃ ρ' v v' H', e = .returned v' ∧ (v = .tuple ⟨[.slice none 0 0, (mk u.n (u.fun k) r').x]⟩ ∧ H' = H) ∧ Ren.le ρ ρ' ∧ Fresh ρ ρ' w ∧ VR ρ' v v' ∧ Rep ρ' H' w' ∧ Keep ρ w w') := by
            intro a' hc
            refine hc.mono ?_
            rintro e w' ⟨rfl, hbl⟩
            exact ⟨ρ, _, _, H, rfl, ⟨rfl, rfl⟩, Ren.le_refl _, Fresh.refl _ _, plain_VR _ hpt, hr.below hbl, Below.toKeep hbl⟩
          rcases nil_or h1 with ⟨rfl, rfl⟩ | ⟨a, n, c, rfl⟩
          · simp only [VR] at hx; subst hx
            exact fin (calls_ro (ρ := rowsRen []) (hN _ r' e3 e4).2 hpt (by simp only [VRL]; exact ⟨_, _, by simp [VR], plainL_VR _ e3, rfl⟩) (rows_rep (rs := []) rfl (by simp) (by simp) (by simp)) (fun _ => rfl))
          · obtain ⟨hun, p, hrow⟩ := view_rows hr hx h1 e1 e2
            have hL := hZ u.n (u.fun k) r' e3 e4 h0
            rw [hun] at hL
            rw [hun] at hpt fin ⊢
            refine fin (calls_ro (ρ := rowsRenW [p] (fun _ => k)) hL hpt (by simp only [VRL]; exact ⟨x', _, VR_sls (slW_VR hrow (by simp)), plainL_VR _ e3, rfl⟩)
              (rowsW_rep (l := [p]) (rs := [(k, u.fun k, n)]) rfl (by simp) (by
                intro i q hq
                rcases i with _ | i
                · simp at hq; exact hrow.low q hq
                · simp at hq) (by
                intro i k2 g2 n2 h0
                rcases i with _ | i
                · simp at h0; obtain ⟨rfl, rfl, rfl⟩ := h0
                  refine ⟨rfl, fun e j he hj => ⟨hrow.one e j he hj, ?_⟩⟩
                  obtain ⟨q, h3, h4⟩ := hrow.cell e j he hj
                  exact ⟨q, by simp [h3], h4⟩
                · simp at h0)) (fun _ => rfl))
        · have h0 : (mk u.n (u.fun k) r').n ≠ 0 := fun e => by rw [e] at h0; cases h0
          rcases nil_or h1 with ⟨rfl, rfl⟩ | ⟨a, n, c, rfl⟩
          · exact absurd (hN _ r' e3 e4).1 h0
          · obtain ⟨hun, p, hrow⟩ := view_rows hr hx h1 e1 e2
            obtain ⟨b, c2, hL, hc1, hc2, hc3⟩ := hS u.n (u.fun k) r' e3 e4 h0
            rw [hun] at hL hc1 hc2 ⊢
            exact calls_pair (ρ1 := rowsRenW [p] (fun _ => k)) (by rw [← hun]; exact hp _ _ _) hc3 hc1 hc2 hL (by simp only [VRL]; exact ⟨x', _, VR_sls (slW_VR hrow (by simp)), plainL_VR _ e3, rfl⟩)
              (rowsW_rep (l := [p]) (rs := [(k, u.fun k, n)]) rfl (by simp) (by
                intro i q hq
                rcases i with _ | i
                · simp at hq; exact hrow.low q hq
                · simp at hq) (by
                intro i k2 g2 n2 h0
                rcases i with _ | i
                · simp at h0; obtain ⟨rfl, rfl, rfl⟩ := h0
                  refine ⟨rfl, fun e j he hj => ⟨hrow.one e j he hj, ?_⟩⟩
                  obtain ⟨q, h3, h4⟩ := hrow.cell e j he hj
                  exact ⟨q, by simp [h3], h4⟩
                · simp at h0)) (fun _ => rfl) hr hb
  · exact trivial
end
end Go.Ly
namespace Go.Proofs.Ytdjmpilegommlaa
open Go Go.Ly Go.RowKit
def cxV : Ctx := (((cx0.with 37 endsC).with 38 jumpsC).withC 57 atC)
theorem cxV_ok : cxV.Ok Try.prog := ((cx0_ok.with ends37_ans).with jumps38_ans).withC atC_good
def cxW : Ctx := cxV.withH 41 (hconTree cxV 600 41)
theorem cxW_ok : cxW.Ok Try.prog := cxV_ok.byRun cxV_ok 600 41
def rowT (a o n : Nat → Int) (k : Nat) : Bool := Nat.ble (0 + k) k && okN k (fun e x => ndG a o n (0 + e) x)
def sh (a : Nat → Int) : Nat → Int := fun e => a (0 + e)
theorem sh_eq (a : Nat → Int) : sh a = a := by funext e; simp [sh]
def xN (n : Nat → Int) (i : Int) : Int := n (0 + i.toNat)
def xO (o : Nat → Int) (i : Int) : Int := o (0 + i.toNat)
def xR (o : Nat → Int) (i : Int) : Int := IntKind.u16.wrap (bits .and .u8 (xO o i) 56)
def xB (a o : Nat → Int) (i : Int) : Int := IntKind.u16.wrap (a (0 + i.toNat) + IntKind.u16.wrap (sizeT (xO o i)))
def aN (k : Nat) (a n : Nat → Int) (i : Int) : Int := atN k (sh a) (xN n i)
def aR (k : Nat) (a o : Nat → Int) (i : Int) : Int := atN k (sh a) (xR o i)
def aB (k : Nat) (a o : Nat → Int) (i : Int) : Int := atN k (sh a) (xB a o i)
def m99 (o : Nat → Int) (i : Int) : Bool := bits .and .u8 (xO o i) 199 == 199
def rtn (o : Nat → Int) (i : Int) : Bool := bits .and .u8 (xO o i) 199 == 192
theorem gN19 : cxW.fn.get 19 = some Try.f19 := by kernel_rfl
def sN (a o n : Nat → Int) (k : Nat) (i : Int) : St := Ly.start Try.f19 [sls 0 k, .int .i64 i] (mkH [some (ndL a o n k)])
def nilT (b : Bool) : Value := .tuple ⟨[.slice none 0 0, .bool b]⟩
def rowP (r m : Nat) (b : Bool) : Value := .tuple ⟨[sl r m, .bool b]⟩
def preT (a o n : Nat → Int) (k : Nat) (i : Int) (l : List (Bool × Bool)) : List (Bool × Bool) := (decide (i < 0) == false, true) :: (decide ((k : Int) ≤ i), false) :: (ixB k i, true) :: (Nat.blt (0 + i.toNat) k, true) :: l
def preP (l : Path) : Path := (0, true) :: (4, false) :: (0, true) :: (0, true) :: l
theorem nx1a (a o n : Nat → Int) (k : Nat) (i : Int) : (Ly.run cxW 6000 (preP [(0, true), (0, true), (0, true)]) (sN a o n k i)).out? = some (preT a o n k i [(xO o i == 205, true), (rowT a o n k, true), (decide (aN k a n i < 0), true)], nilT true) := by kernel_rfl
theorem nx1b (a o n : Nat → Int) (k : Nat) (i : Int) : endsAt [3] (Ly.run cxW 6000 (preP [(0, true), (0, true), (0, false)]) (sN a o n k i)) = some (preT a o n k i [(xO o i == 205, true), (rowT a o n k, true), (decide (aN k a n i < 0), false)], rowP 3 1 (rtn o i), 4, [some (.row [.int .i64 (aN k a n i)] 3 1)]) := by kernel_rfl
theorem nx2a (a o n : Nat → Int) (k : Nat) (i : Int) : (Ly.run cxW 6000 (preP [(0, false), (0, true), (0, true), (0, true)]) (sN a o n k i)).out? = some (preT a o n k i [(xO o i == 205, false), (m99 o i, true), (rowT a o n k, true), (decide (aR k a o i < 0), true)], nilT true) := by kernel_rfl
theorem nx2b (a o n : Nat → Int) (k : Nat) (i : Int) : endsAt [3] (Ly.run cxW 6000 (preP [(0, false), (0, true), (0, true), (0, false)]) (sN a o n k i)) = some (preT a o n k i [(xO o i == 205, false), (m99 o i, true), (rowT a o n k, true), (decide (aR k a o i < 0), false)], rowP 3 1 (rtn o i), 4, [some (.row [.int .i64 (aR k a o i)] 3 1)]) := by kernel_rfl
theorem nx3a (a o n : Nat → Int) (k : Nat) (i : Int) : (Ly.run cxW 6000 (preP [(0, false), (0, false), (0, true), (0, true), (0, true), (0, true), (0, true)]) (sN a o n k i)).out? = some (preT a o n k i [(xO o i == 205, false), (m99 o i, false), (inb (xO o i), true), (endsB (xO o i), true), (xO o i == 195, true), (rowT a o n k, true), (decide (aN k a n i < 0), true)], nilT true) := by kernel_rfl
theorem nx3b (a o n : Nat → Int) (k : Nat) (i : Int) : endsAt [3] (Ly.run cxW 6000 (preP [(0, false), (0, false), (0, true), (0, true), (0, true), (0, true), (0, false)]) (sN a o n k i)) = some (preT a o n k i [(xO o i == 205, false), (m99 o i, false), (inb (xO o i), true), (endsB (xO o i), true), (xO o i == 195, true), (rowT a o n k, true), (decide (aN k a n i < 0), false)], rowP 3 1 (rtn o i), 4, [some (.row [.int .i64 (aN k a n i)] 3 1)]) := by kernel_rfl
theorem nx3c (a o n : Nat → Int) (k : Nat) (i : Int) : (Ly.run cxW 6000 (preP [(0, false), (0, false), (0, true), (0, true), (0, false)]) (sN a o n k i)).out? = some (preT a o n k i [(xO o i == 205, false), (m99 o i, false), (inb (xO o i), true), (endsB (xO o i), true), (xO o i == 195, false)], nilT true) := by kernel_rfl
theorem nx4a (a o n : Nat → Int) (k : Nat) (i : Int) : (Ly.run cxW 6000 (preP [(0, false), (0, false), (0, true), (0, false), (0, true), (0, true), (0, true), (0, true), (0, true), (0, true), (0, true)]) (sN a o n k i)).out? = some (preT a o n k i [(xO o i == 205, false), (m99 o i, false), (inb (xO o i), true), (endsB (xO o i), false), (inb (xO o i), true), (jumpsB (xO o i), true), (rowT a o n k, true), (decide (aN k a n i < 0), true), (inb (xO o i), true), (rowT a o n k, true), (decide (aB k a o i < 0), true)], nilT true) := by kernel_rfl
theorem nx4b (a o n : Nat → Int) (k : Nat) (i : Int) : endsAt [3] (Ly.run cxW 6000 (preP [(0, false), (0, false), (0, true), (0, false), (0, true), (0, true), (0, true), (0, true), (0, true), (0, true), (0, false)]) (sN a o n k i)) = some (preT a o n k i [(xO o i == 205, false), (m99 o i, false), (inb (xO o i), true), (endsB (xO o i), false), (inb (xO o i), true), (jumpsB (xO o i), true), (rowT a o n k, true), (decide (aN k a n i < 0), true), (inb (xO o i), true), (rowT a o n k, true), (decide (aB k a o i < 0), false)], rowP 3 1 (true), 4, [some (.row [.int .i64 (aB k a o i)] 3 1)]) := by kernel_rfl
theorem nx4c (a o n : Nat → Int) (k : Nat) (i : Int) : endsAt [3] (Ly.run cxW 6000 (preP [(0, false), (0, false), (0, true), (0, false), (0, true), (0, true), (0, true), (0, false), (4, true), (0, true), (0, true)]) (sN a o n k i)) = some (preT a o n k i [(xO o i == 205, false), (m99 o i, false), (inb (xO o i), true), (endsB (xO o i), false), (inb (xO o i), true), (jumpsB (xO o i), true), (rowT a o n k, true), (decide (aN k a n i < 0), false), (inb (xO o i), true), (rowT a o n k, true), (decide (aB k a o i < 0), true)], rowP 3 1 (true), 4, [some (.row [.int .i64 (aN k a n i)] 3 1)]) := by kernel_rfl
theorem nx4d (a o n : Nat → Int) (k : Nat) (i : Int) : endsAt [5] (Ly.run cxW 6000 (preP [(0, false), (0, false), (0, true), (0, false), (0, true), (0, true), (0, true), (0, false), (4, true), (0, true), (0, false), (33, false), (8, true), (21, false)]) (sN a o n k i)) = some (preT a o n k i [(xO o i == 205, false), (m99 o i, false), (inb (xO o i), true), (endsB (xO o i), false), (inb (xO o i), true), (jumpsB (xO o i), true), (rowT a o n k, true), (decide (aN k a n i < 0), false), (inb (xO o i), true), (rowT a o n k, true), (decide (aB k a o i < 0), false), ((aB k a o i != aB k a o i) == true, false), (decide (aB k a o i < aN k a n i), true), (aN k a n i == aB k a o i, false)], rowP 5 2 (rtn o i), 6, [some (.row [.int .i64 (aB k a o i), .int .i64 (aN k a n i)] 3 1)]) := by kernel_rfl
theorem nx4e (a o n : Nat → Int) (k : Nat) (i : Int) : endsAt [5] (Ly.run cxW 6000 (preP [(0, false), (0, false), (0, true), (0, false), (0, true), (0, true), (0, true), (0, false), (4, true), (0, true), (0, false), (33, false), (8, false), (5, false)]) (sN a o n k i)) = some (preT a o n k i [(xO o i == 205, false), (m99 o i, false), (inb (xO o i), true), (endsB (xO o i), false), (inb (xO o i), true), (jumpsB (xO o i), true), (rowT a o n k, true), (decide (aN k a n i < 0), false), (inb (xO o i), true), (rowT a o n k, true), (decide (aB k a o i < 0), false), ((aB k a o i != aB k a o i) == true, false), (decide (aB k a o i < aN k a n i), false), (aB k a o i == aN k a n i, false)], rowP 5 2 (rtn o i), 6, [some (.row [.int .i64 (aN k a n i), .int .i64 (aB k a o i)] 3 1)]) := by kernel_rfl
theorem nx4f (a o n : Nat → Int) (k : Nat) (i : Int) : endsAt [5] (Ly.run cxW 6000 (preP [(0, false), (0, false), (0, true), (0, false), (0, true), (0, true), (0, true), (0, false), (4, true), (0, true), (0, false), (33, false), (8, false), (5, true)]) (sN a o n k i)) = some (preT a o n k i [(xO o i == 205, false), (m99 o i, false), (inb (xO o i), true), (endsB (xO o i), false), (inb (xO o i), true), (jumpsB (xO o i), true), (rowT a o n k, true), (decide (aN k a n i < 0), false), (inb (xO o i), true), (rowT a o n k, true), (decide (aB k a o i < 0), false), ((aB k a o i != aB k a o i) == true, false), (decide (aB k a o i < aN k a n i), false), (aB k a o i == aN k a n i, true)], rowP 5 1 (rtn o i), 6, [some (.row [.int .i64 (aN k a n i), .int .i64 (0)] 3 1)]) := by kernel_rfl
theorem nx5a (a o n : Nat → Int) (k : Nat) (i : Int) : (Ly.run cxW 6000 (preP [(0, false), (0, false), (0, true), (0, false), (0, true), (0, false), (0, true), (0, true), (0, true)]) (sN a o n k i)).out? = some (preT a o n k i [(xO o i == 205, false), (m99 o i, false), (inb (xO o i), true), (endsB (xO o i), false), (inb (xO o i), true), (jumpsB (xO o i), false), (inb (xO o i), true), (rowT a o n k, true), (decide (aB k a o i < 0), true)], nilT true) := by kernel_rfl
theorem nx5b (a o n : Nat → Int) (k : Nat) (i : Int) : endsAt [3] (Ly.run cxW 6000 (preP [(0, false), (0, false), (0, true), (0, false), (0, true), (0, false), (0, true), (0, true), (0, false)]) (sN a o n k i)) = some (preT a o n k i [(xO o i == 205, false), (m99 o i, false), (inb (xO o i), true), (endsB (xO o i), false), (inb (xO o i), true), (jumpsB (xO o i), false), (inb (xO o i), true), (rowT a o n k, true), (decide (aB k a o i < 0), false)], rowP 3 1 (rtn o i), 4, [some (.row [.int .i64 (aB k a o i)] 3 1)]) := by kernel_rfl
theorem nx0a (a o n : Nat → Int) (k : Nat) (i : Int) : (Ly.run cxW 6000 [(0, false)] (sN a o n k i)).out? = some ([(decide (i < 0) == false, false)], nilT false) := by kernel_rfl
theorem nx0b (a o n : Nat → Int) (k : Nat) (i : Int) : (Ly.run cxW 6000 [(0, true), (4, true)] (sN a o n k i)).out? = some ([(decide (i < 0) == false, true), (decide ((k : Int) ≤ i), true)], nilT false) := by kernel_rfl
theorem nxN0 (i : Int) : (Ly.run cxW 6000 [(0, false)] (Ly.start Try.f19 [.slice none 0 0, .int .i64 i] (mkH []))).out? = some ([(decide (i < 0) == false, false)], nilT false) := by kernel_rfl
theorem nxN1 (i : Int) : (Ly.run cxW 6000 [(0, true), (4, true)] (Ly.start Try.f19 [.slice none 0 0, .int .i64 i] (mkH []))).out? = some ([(decide (i < 0) == false, true), (decide ((0 : Int) ≤ i), true)], nilT false) := by kernel_rfl
def nxOne (v : Int) (r : Bool) : List Int × Bool := bif decide (v < 0) then ([], true) else ([v], r)
def nxTwo (u v : Int) (r : Bool) : List Int × Bool := bif decide (u < 0) then (bif decide (v < 0) then ([], true) else ([v], true)) else bif decide (v < 0) then ([u], true) else bif decide (v < u) then ([v, u], r) else bif v == u then ([u], r) else ([u, v], r)
def nxI (k : Nat) (a o n : Nat → Int) (i : Int) : List Int × Bool := bif xO o i == 205 then nxOne (aN k a n i) (rtn o i) else bif m99 o i then nxOne (aR k a o i) (rtn o i) else bif endsB (xO o i) then (bif xO o i == 195 then nxOne (aN k a n i) (rtn o i) else ([], true)) else bif jumpsB (xO o i) then nxTwo (aN k a n i) (aB k a o i) (rtn o i) else nxOne (aB k a o i) (rtn o i)
def nxF (k : Nat) (a o n : Nat → Int) (i : Int) : List Int × Bool := bif decide (i < 0) || decide ((k : Int) ≤ i) then ([], false) else nxI k a o n i
def NxOk (a o n : Nat → Int) (k : Nat) (i : Int) (r : List Int × Bool) : Prop := (r.1 = [] ∧ LCalls Try.prog 19 [sls 0 k, .int .i64 i] (mkH [some (ndL a o n k)]) (fun u _ => u = nilT r.2)) ∨ (r.1 ≠ [] ∧ ∃ b c, LCalls Try.prog 19 [sls 0 k, .int .i64 i] (mkH [some (ndL a o n k)]) (fun u K => u = rowP b r.1.length r.2 ∧ K.get b = some (.row c 3 1) ∧ K.lock = 0) ∧ r.1.length ≤ c.length ∧ (∀ e, e < r.1.length → c[e]? = some (.int .i64 ((r.1[e]?).getD 0))) ∧ c.all cst = true)
section
variable {a o n : Nat → Int} {k : Nat} {i : Int}
theorem nx_nil {p : Path} {t : List (Bool × Bool)} {b : Bool} (h : (Ly.run cxW 6000 p (sN a o n k i)).out? = some (t, nilT b)) (ht : trusted t) : NxOk a o n k i ([], b) :=
  .inl ⟨rfl, LCalls_of cxW_ok gN19 (by kernel_rfl) (MWp.out cxW_ok 6000 p h ht (fun _ => rfl))⟩
theorem nx_row {p : Path} {t : List (Bool × Bool)} {b : Bool} {r nx : Nat} {c : List Value} {l : List Int} (h : endsAt [r] (Ly.run cxW 6000 p (sN a o n k i)) = some (t, rowP r l.length b, nx, [some (.row c 3 1)])) (ht : trusted t)
    (h0 : l ≠ []) (h1 : l.length ≤ c.length) (h2 : ∀ e, e < l.length → c[e]? = some (.int .i64 ((l[e]?).getD 0))) (h3 : c.all cst = true) : NxOk a o n k i (l, b) := by
  refine .inr ⟨h0, r, c, ?_, h1, h2, h3⟩
  refine LCalls_of cxW_ok gN19 (by kernel_rfl) ((MWp.ends cxW_ok 6000 p h ht).mono ?_)
  rintro v K ⟨e1, _, e2, e3⟩
  simp only [List.map_cons, List.map_nil, List.cons.injEq, and_true] at e2
  exact ⟨e1, e2, e3⟩
theorem one_ok {v : Int} {l : List Value} (e : Nat) (h : e < [v].length) : (Value.int .i64 v :: l)[e]? = some (.int .i64 (([v] : List Int)[e]?.getD 0)) := by
  have : e = 0 := by simpa using h
  subst this; rfl
theorem two_ok {u v : Int} (e : Nat) (h : e < [u, v].length) : [Value.int .i64 u, .int .i64 v][e]? = some (.int .i64 (([u, v] : List Int)[e]?.getD 0)) := by
  have : e = 0 ∨ e = 1 := by simp at h; omega
  rcases this with rfl | rfl <;> rfl
theorem pre_t {l : List (Bool × Bool)} (h0 : 0 ≤ i) (h1 : i < k) (hl : trusted l) : trusted (preT a o n k i l) := by
  have e : 0 + i.toNat = i.toNat := by omega
  have e2 : Nat.blt i.toNat k = true := by rw [Nat.blt_eq]; omega
  have e3 : ixB k i = true := by simp [ixB, h0, h1]
  have e4 : decide (i < 0) = false := by simpa using h0
  have e5 : decide ((k : Int) ≤ i) = false := by simpa using h1
  simp only [preT, trusted, e, e2, e3, e4, e5, hl, beq_self_eq_true, and_self]
theorem nx_ok (ho : ∀ e, e < k → inb (o e) = true) (hk : okN k (ndG a o n) = true) (i : Int) : NxOk a o n k i (nxF k a o n i) := by
  have hr : rowT a o n k = true := by
    have : (fun e x => ndG a o n (0 + e) x) = ndG a o n := by funext e x; simp
    unfold rowT; rw [this, hk]; simp
  by_cases h0 : i < 0
  · have e : nxF k a o n i = ([], false) := by unfold nxF; rw [decide_eq_true h0]; rfl
    rw [e]; exact nx_nil (nx0a a o n k i) (by simp [trusted, h0])
  by_cases h1 : (k : Int) ≤ i
  · have e : nxF k a o n i = ([], false) := by unfold nxF; rw [decide_eq_true h1, Bool.or_true]; rfl
    rw [e]; exact nx_nil (nx0b a o n k i) (by simp [trusted, h0, h1])
  have e : nxF k a o n i = nxI k a o n i := by unfold nxF; rw [decide_eq_false h0, decide_eq_false h1]; rfl
  rw [e]
  have g0 : 0 ≤ i := by omega
  have g1 : i < k := by omega
  have hi : inb (xO o i) = true := by unfold xO; rw [Nat.zero_add]; exact ho _ (by omega)
  have nn : ∀ x : Int, ((x != x) == true) = false := fun x => by simp
  unfold nxI
  cases c1 : (xO o i == 205) with
  | true =>
    simp only [cond_true, nxOne]
    cases c2 : decide (aN k a n i < 0) with
    | true => simp only [cond_true]; exact nx_nil (nx1a a o n k i) (pre_t g0 g1 (by simp only [trusted, hr, hi, c1, c2, nn, and_self]))
    | false => simp only [cond_false]; exact nx_row (l := [aN k a n i]) (nx1b a o n k i) (pre_t g0 g1 (by simp only [trusted, hr, hi, c1, c2, nn, and_self])) (by simp) (by simp) one_ok rfl
  | false =>
    simp only [cond_false]
    cases c2 : m99 o i with
    | true =>
      simp only [cond_true, nxOne]
      cases c3 : decide (aR k a o i < 0) with
      | true => simp only [cond_true]; exact nx_nil (nx2a a o n k i) (pre_t g0 g1 (by simp only [trusted, hr, hi, c1, c2, c3, nn, and_self]))
      | false => simp only [cond_false]; exact nx_row (l := [aR k a o i]) (nx2b a o n k i) (pre_t g0 g1 (by simp only [trusted, hr, hi, c1, c2, c3, nn, and_self])) (by simp) (by simp) one_ok rfl
    | false =>
      simp only [cond_false]
      cases c3 : endsB (xO o i) with
      | true =>
        simp only [cond_true]
        cases c4 : (xO o i == 195) with
        | true =>
          simp only [cond_true, nxOne]
          cases c5 : decide (aN k a n i < 0) with
          | true => simp only [cond_true]; exact nx_nil (nx3a a o n k i) (pre_t g0 g1 (by simp only [trusted, hr, hi, c1, c2, c3, c4, c5, nn, and_self]))
          | false => simp only [cond_false]; exact nx_row (l := [aN k a n i]) (nx3b a o n k i) (pre_t g0 g1 (by simp only [trusted, hr, hi, c1, c2, c3, c4, c5, nn, and_self])) (by simp) (by simp) one_ok rfl
        | false => simp only [cond_false]; exact nx_nil (nx3c a o n k i) (pre_t g0 g1 (by simp only [trusted, hr, hi, c1, c2, c3, c4, nn, and_self]))
      | false =>
        simp only [cond_false]
        cases c4 : jumpsB (xO o i) with
        | true =>
          simp only [cond_true, nxTwo]
          cases c5 : decide (aN k a n i < 0) with
          | true =>
            simp only [cond_true]
            cases c6 : decide (aB k a o i < 0) with
            | true => simp only [cond_true]; exact nx_nil (nx4a a o n k i) (pre_t g0 g1 (by simp only [trusted, hr, hi, c1, c2, c3, c4, c5, c6, nn, and_self]))
            | false => simp only [cond_false]; exact nx_row (l := [aB k a o i]) (nx4b a o n k i) (pre_t g0 g1 (by simp only [trusted, hr, hi, c1, c2, c3, c4, c5, c6, nn, and_self])) (by simp) (by simp) one_ok rfl
          | false =>
            simp only [cond_false]
            cases c6 : decide (aB k a o i < 0) with
            | true => simp only [cond_true]; exact nx_row (l := [aN k a n i]) (nx4c a o n k i) (pre_t g0 g1 (by simp only [trusted, hr, hi, c1, c2, c3, c4, c5, c6, nn, and_self])) (by simp) (by simp) one_ok rfl
            | false =>
              simp only [cond_false]
              cases c7 : decide (aB k a o i < aN k a n i) with
              | true =>
                simp only [cond_true]
                have c8 : (aN k a n i == aB k a o i) = false := by
                  have := of_decide_eq_true c7
                  simp; omega
                exact nx_row (l := [aB k a o i, aN k a n i]) (nx4d a o n k i) (pre_t g0 g1 (by simp only [trusted, hr, hi, c1, c2, c3, c4, c5, c6, c7, c8, nn, and_self])) (by simp) (by simp) two_ok rfl
              | false =>
                simp only [cond_false]
                cases c8 : (aB k a o i == aN k a n i) with
                | true => simp only [cond_true]; exact nx_row (l := [aN k a n i]) (nx4f a o n k i) (pre_t g0 g1 (by simp only [trusted, hr, hi, c1, c2, c3, c4, c5, c6, c7, c8, nn, and_self])) (by simp) (by simp) one_ok rfl
                | false => simp only [cond_false]; exact nx_row (l := [aN k a n i, aB k a o i]) (nx4e a o n k i) (pre_t g0 g1 (by simp only [trusted, hr, hi, c1, c2, c3, c4, c5, c6, c7, c8, nn, and_self])) (by simp) (by simp) two_ok rfl
        | false =>
          simp only [cond_false, nxOne]
          cases c5 : decide (aB k a o i < 0) with
          | true => simp only [cond_true]; exact nx_nil (nx5a a o n k i) (pre_t g0 g1 (by simp only [trusted, hr, hi, c1, c2, c3, c4, c5, nn, and_self]))
          | false => simp only [cond_false]; exact nx_row (l := [aB k a o i]) (nx5b a o n k i) (pre_t g0 g1 (by simp only [trusted, hr, hi, c1, c2, c3, c4, c5, nn, and_self])) (by simp) (by simp) one_ok rfl
end
def nxMk (n : Nat) (G : Nat → Nat → Value) (r : List Value) : PairA := match r with
  | [.int .i64 i] => ⟨okN n G && (List.range n).all fun e => inb (oOf G e), (nxF n (aOf G) (oOf G) (nOf G) i).1.length, fun e => ((nxF n (aOf G) (oOf G) (nOf G) i).1[e]?).getD 0, .bool (nxF n (aOf G) (oOf G) (nOf G) i).2⟩
  | _ => ⟨false, 0, fun _ => 0, .bool false⟩
def nxC : Heap → List Value → ER := rowsPair 3 nxMk 3
theorem nx_nilN (i : Int) (a o n : Nat → Int) : nxF 0 a o n i = ([], false) := by
  unfold nxF
  have : (decide (i < 0) || decide (((0 : Nat) : Int) ≤ i)) = true := by simp; omega
  rw [this]; rfl
theorem nxC_good (H : Heap) (args : List Value) : HGood Try.prog 19 args H (nxC H args) := by
  refine rowsPair_good (fun n G r => ?_) (fun n G r hp hg h0 => ?_) (fun n G r hp hg h0 => ?_) (fun G r hp hg => ?_) H args
  · unfold nxMk; split <;> simp [plain]
  · unfold nxMk at hg h0 ⊢
    split at hg
    · simp only [Bool.and_eq_true, List.all_eq_true, List.mem_range] at hg
      obtain ⟨h1, h2⟩ := okN_eq hg.1
      rename_i i
      rcases nx_ok (n := nOf G) (a := aOf G) (o := oOf G) (k := n) hg.2 (okN_nd _ _ _ h1) i with ⟨q, _⟩ | ⟨q, b, c, q1, q2, q3, q4⟩
      · exact absurd (show (nxF n (aOf G) (oOf G) (nOf G) i).1.length = 0 by rw [q]; rfl) h0
      · exact ⟨b, c, LCalls.argEq h2 q1, q2, q3, q4⟩
    · cases hg
  · unfold nxMk at hg h0 ⊢
    split at hg
    · simp only [Bool.and_eq_true, List.all_eq_true, List.mem_range] at hg
      obtain ⟨h1, h2⟩ := okN_eq hg.1
      rename_i i
      rcases nx_ok (n := nOf G) (a := aOf G) (o := oOf G) (k := n) hg.2 (okN_nd _ _ _ h1) i with ⟨q, q1⟩ | ⟨q, _⟩
      · exact LCalls.argEq h2 q1
      · exact absurd (List.eq_nil_of_length_eq_zero h0) q
    · cases hg
  · unfold nxMk at hg ⊢
    split at hg
    · rename_i i
      simp only [nx_nilN]
      refine ⟨rfl, LCalls_of cxW_ok gN19 (by kernel_rfl) ?_⟩
      by_cases h0 : i < 0
      · exact MWp.out cxW_ok 6000 _ (nxN0 i) (by simp [trusted, h0]) (fun _ => rfl)
      · exact MWp.out cxW_ok 6000 _ (nxN1 i) (by simp [trusted]; omega) (fun _ => rfl)
    · cases hg
end Go.Proofs.Ytdjmpilegommlaa
namespace Go.Proofs.Ytdjmpilegommlaa
open Go Go.Ly Go.RowKit
def cyN : Ctx := ((((((env.bare.with 27 nameC).with 30 amC).with 29 (tabC condT)).with 54 endsC).with 55 jumpsC).with 35 sizeC).withC 56 at6C
theorem cyN_ok : cyN.Ok Try.prog := (((((((Env.bare_ok envOk).with name27_ans).with am30_ans).with tab29_ans).with ends54_ans).with jumps55_ans).with sizf35_ans).withC at6C_good
def s34D : St := Ly.start Try.f34 [] H0
def s34 (a o n : Nat → Int) (k : Nat) (i : Int) : St := Ly.start Try.f34 [sls 0 k, .int .i64 i] (mkH [some (ndL a o n k)])
def v34 (k : Nat) (op : Bool) (w t : Value) (c : Int) : List Value := slots 134 [(0, sls 0 k), (9, .bool op), (10, w), (11, t), (12, .int .i64 c)]
def wA (a o : Nat → Int) (i : Int) : Int := IntKind.i64.wrap (t6W (a (0 + i.toNat)) + sizeT (xO o i))
def wN (n : Nat → Int) (i : Int) : Int := t6W (n (0 + i.toNat))
def wR (o : Nat → Int) (i : Int) : Int := t6W (bits .and .u8 (xO o i) 56)
def rstB (o : Nat → Int) (i : Int) : Bool := bits .and .u8 (xO o i) 199 == 199
def lowB (o : Nat → Int) (i : Int) : Bool := bits .and .u8 (xO o i) 7 == 0
def nmB (o : Nat → Int) (i : Int) : Bool := decide (0 ≤ xO o i) && decide (xO o i < 256)
def igB (o : Nat → Int) (i : Int) : Bool := isN (nameT (xO o i)) && strEq ⟨#[82, 69, 84, 32, 80, 67, 72, 76, 32, 72, 76, 84]⟩ rphB
def amT (o : Nat → Int) (i : Int) : Bool := amB (nameT (xO o i))
def clT (o : Nat → Int) (i : Int) : Bool := strEq (nameT (xO o i)) ⟨#[67, 65, 76, 76]⟩
def pt34 (a o n : Nat → Int) (k : Nat) (i : Int) (l : List (Bool × Bool)) : List (Bool × Bool) := (decide (i < 0) == false, true) :: (decide ((k : Int) ≤ i), false) :: (ixB k i, true) :: (Nat.blt (0 + i.toNat) k, true) :: (nmB o i, true) :: (igB o i, true) :: l
def pp34 (l : Path) : Path := (0, true) :: (4, false) :: (0, true) :: (0, true) :: (0, true) :: (0, true) :: l
def rowI (l : List Int) : LO := .row (l.map (Value.int .i64)) 3 1
def k34 : List KI := ((Ly.run cyN 110 (pp34 [(0, false), (6, true), (0, false), (6, true), (0, false), (0, false)]) (s34 (fun _ => 0) (fun _ => 0) (fun _ => 0) 0 0)).st s34D).top.k
theorem n6_a (a o n : Nat → Int) (k : Nat) (i : Int) : headAt [0, 9, 10, 11, 12] [0] s34D (Ly.run cyN 110 (pp34 [(0, false), (6, true), (0, false), (6, true), (0, false), (0, false)]) (s34 a o n k i)) = (true, pt34 a o n k i [(amT o i == false, false), (inb (xO o i), true), ((!endsB (xO o i)) == true, false), (inb (xO o i), true), (jumpsB (xO o i), false), (rstB o i, false)], true, (Try.f34, k34, none, 1), v34 k (true) (.slice none 0 0) (.slice none 0 0) 0, [some (ndL a o n k)]) := by kernel_rfl
theorem n6_t (a o n : Nat → Int) (k : Nat) (i : Int) : headAt [0, 9, 10, 11, 12] [0, 3] s34D (Ly.run cyN 110 (pp34 [(0, true), (2, true), (2, true), (6, true), (0, true), (2, true), (2, true), (0, true), (4, true), (0, false), (0, false)]) (s34 a o n k i)) = (true, pt34 a o n k i [(amT o i == false, true), (inb (xO o i), true), (decide (0 ≤ condT (xO o i)) == true, true), (inb (xO o i), true), ((!endsB (xO o i)) == true, true), ((!clT o i) == true, true), (!rstB o i, true), (inb (xO o i), true), (inb (xO o i), true), (jumpsB (xO o i), false), (rstB o i, false)], true, (Try.f34, k34, none, 1), v34 k (lowB o i) (sl 1 1) (.slice none 0 0) 0, [some (ndL a o n k), some (rowI [wA a o i])]) := by kernel_rfl
theorem n6_q (a o n : Nat → Int) (k : Nat) (i : Int) : headAt [0, 9, 10, 11, 12] [0, 5] s34D (Ly.run cyN 118 (pp34 [(0, true), (2, true), (2, true), (6, true), (0, true), (2, true), (2, true), (0, true), (4, true), (0, true), (2, false)]) (s34 a o n k i)) = (true, pt34 a o n k i [(amT o i == false, true), (inb (xO o i), true), (decide (0 ≤ condT (xO o i)) == true, true), (inb (xO o i), true), ((!endsB (xO o i)) == true, true), ((!clT o i) == true, true), (!rstB o i, true), (inb (xO o i), true), (inb (xO o i), true), (jumpsB (xO o i), true), (rstB o i, false)], true, (Try.f34, k34, none, 1), v34 k (lowB o i) (sl 1 2) (.slice none 0 0) 0, [some (ndL a o n k), some (rowI [wA a o i, wN n i])]) := by kernel_rfl
theorem n6_n (a o n : Nat → Int) (k : Nat) (i : Int) : headAt [0, 9, 10, 11, 12] [0, 3] s34D (Ly.run cyN 110 (pp34 [(0, true), (2, true), (2, false), (6, true), (0, true), (2, true), (2, true), (0, true), (4, true), (0, false), (0, false)]) (s34 a o n k i)) = (true, pt34 a o n k i [(amT o i == false, true), (inb (xO o i), true), (decide (0 ≤ condT (xO o i)) == true, false), (inb (xO o i), true), ((!endsB (xO o i)) == true, true), ((!clT o i) == true, true), (!rstB o i, true), (inb (xO o i), true), (inb (xO o i), true), (jumpsB (xO o i), false), (rstB o i, false)], true, (Try.f34, k34, none, 1), v34 k (false) (sl 1 1) (.slice none 0 0) 0, [some (ndL a o n k), some (rowI [wA a o i])]) := by kernel_rfl
theorem n6_j (a o n : Nat → Int) (k : Nat) (i : Int) : headAt [0, 9, 10, 11, 12] [0, 3] s34D (Ly.run cyN 118 (pp34 [(0, true), (2, true), (2, false), (6, true), (0, false), (6, true), (0, true), (4, false)]) (s34 a o n k i)) = (true, pt34 a o n k i [(amT o i == false, true), (inb (xO o i), true), (decide (0 ≤ condT (xO o i)) == true, false), (inb (xO o i), true), ((!endsB (xO o i)) == true, false), (inb (xO o i), true), (jumpsB (xO o i), true), (rstB o i, false)], true, (Try.f34, k34, none, 1), v34 k (false) (sl 1 1) (.slice none 0 0) 0, [some (ndL a o n k), some (rowI [wN n i])]) := by kernel_rfl
theorem n6_c (a o n : Nat → Int) (k : Nat) (i : Int) : headAt [0, 9, 10, 11, 12] [0, 3] s34D (Ly.run cyN 118 (pp34 [(0, true), (2, true), (2, false), (6, true), (0, true), (2, false), (3, true), (0, true), (4, false)]) (s34 a o n k i)) = (true, pt34 a o n k i [(amT o i == false, true), (inb (xO o i), true), (decide (0 ≤ condT (xO o i)) == true, false), (inb (xO o i), true), ((!endsB (xO o i)) == true, true), ((!clT o i) == true, false), (inb (xO o i), true), (jumpsB (xO o i), true), (rstB o i, false)], true, (Try.f34, k34, none, 1), v34 k (false) (sl 1 1) (.slice none 0 0) 0, [some (ndL a o n k), some (rowI [wN n i])]) := by kernel_rfl
theorem n6_s (a o n : Nat → Int) (k : Nat) (i : Int) : headAt [0, 9, 10, 11, 12] [0, 3] s34D (Ly.run cyN 119 (pp34 [(0, true), (2, true), (2, false), (6, true), (0, true), (2, true), (2, false), (0, true), (0, false), (0, true)]) (s34 a o n k i)) = (true, pt34 a o n k i [(amT o i == false, true), (inb (xO o i), true), (decide (0 ≤ condT (xO o i)) == true, false), (inb (xO o i), true), ((!endsB (xO o i)) == true, true), ((!clT o i) == true, true), (!rstB o i, false), (inb (xO o i), true), (jumpsB (xO o i), false), (rstB o i, true)], true, (Try.f34, k34, none, 1), v34 k (false) (sl 1 1) (.slice none 0 0) 0, [some (ndL a o n k), some (rowI [wR o i])]) := by kernel_rfl
end Go.Proofs.Ytdjmpilegommlaa
namespace Go.Proofs.Ytdjmpilegommlaa
open Go Go.Ly Go.RowKit
theorem tab9_0 : ((List.range 8).all fun i => tabI (Ly.run env.bare 60000 [] (Ly.start Try.f9 [.int .u8 (((0 + i) : Nat) : Int)] H0)).val? (usesT (((0 + i) : Nat) : Int))) = true := by kernel_rfl
theorem tab9_1 : ((List.range 8).all fun i => tabI (Ly.run env.bare 60000 [] (Ly.start Try.f9 [.int .u8 (((8 + i) : Nat) : Int)] H0)).val? (usesT (((8 + i) : Nat) : Int))) = true := by kernel_rfl
theorem tab9_2 : ((List.range 8).all fun i => tabI (Ly.run env.bare 60000 [] (Ly.start Try.f9 [.int .u8 (((16 + i) : Nat) : Int)] H0)).val? (usesT (((16 + i) : Nat) : Int))) = true := by kernel_rfl
theorem tab9_3 : ((List.range 8).all fun i => tabI (Ly.run env.bare 60000 [] (Ly.start Try.f9 [.int .u8 (((24 + i) : Nat) : Int)] H0)).val? (usesT (((24 + i) : Nat) : Int))) = true := by kernel_rfl
theorem tab9_4 : ((List.range 8).all fun i => tabI (Ly.run env.bare 60000 [] (Ly.start Try.f9 [.int .u8 (((32 + i) : Nat) : Int)] H0)).val? (usesT (((32 + i) : Nat) : Int))) = true := by kernel_rfl
theorem tab9_5 : ((List.range 8).all fun i => tabI (Ly.run env.bare 60000 [] (Ly.start Try.f9 [.int .u8 (((40 + i) : Nat) : Int)] H0)).val? (usesT (((40 + i) : Nat) : Int))) = true := by kernel_rfl
theorem tab9_6 : ((List.range 8).all fun i => tabI (Ly.run env.bare 60000 [] (Ly.start Try.f9 [.int .u8 (((48 + i) : Nat) : Int)] H0)).val? (usesT (((48 + i) : Nat) : Int))) = true := by kernel_rfl
theorem tab9_7 : ((List.range 8).all fun i => tabI (Ly.run env.bare 60000 [] (Ly.start Try.f9 [.int .u8 (((56 + i) : Nat) : Int)] H0)).val? (usesT (((56 + i) : Nat) : Int))) = true := by kernel_rfl
theorem tab9_8 : ((List.range 8).all fun i => tabI (Ly.run env.bare 60000 [] (Ly.start Try.f9 [.int .u8 (((64 + i) : Nat) : Int)] H0)).val? (usesT (((64 + i) : Nat) : Int))) = true := by kernel_rfl
theorem tab9_9 : ((List.range 8).all fun i => tabI (Ly.run env.bare 60000 [] (Ly.start Try.f9 [.int .u8 (((72 + i) : Nat) : Int)] H0)).val? (usesT (((72 + i) : Nat) : Int))) = true := by kernel_rfl
theorem tab9_10 : ((List.range 8).all fun i => tabI (Ly.run env.bare 60000 [] (Ly.start Try.f9 [.int .u8 (((80 + i) : Nat) : Int)] H0)).val? (usesT (((80 + i) : Nat) : Int))) = true := by kernel_rfl
theorem tab9_11 : ((List.range 8).all fun i => tabI (Ly.run env.bare 60000 [] (Ly.start Try.f9 [.int .u8 (((88 + i) : Nat) : Int)] H0)).val? (usesT (((88 + i) : Nat) : Int))) = true := by kernel_rfl
theorem tab9_12 : ((List.range 8).all fun i => tabI (Ly.run env.bare 60000 [] (Ly.start Try.f9 [.int .u8 (((96 + i) : Nat) : Int)] H0)).val? (usesT (((96 + i) : Nat) : Int))) = true := by kernel_rfl
theorem tab9_13 : ((List.range 8).all fun i => tabI (Ly.run env.bare 60000 [] (Ly.start Try.f9 [.int .u8 (((104 + i) : Nat) : Int)] H0)).val? (usesT (((104 + i) : Nat) : Int))) = true := by kernel_rfl
theorem tab9_14 : ((List.range 8).all fun i => tabI (Ly.run env.bare 60000 [] (Ly.start Try.f9 [.int .u8 (((112 + i) : Nat) : Int)] H0)).val? (usesT (((112 + i) : Nat) : Int))) = true := by kernel_rfl
theorem tab9_15 : ((List.range 8).all fun i => tabI (Ly.run env.bare 60000 [] (Ly.start Try.f9 [.int .u8 (((120 + i) : Nat) : Int)] H0)).val? (usesT (((120 + i) : Nat) : Int))) = true := by kernel_rfl
theorem tab9_16 : ((List.range 8).all fun i => tabI (Ly.run env.bare 60000 [] (Ly.start Try.f9 [.int .u8 (((128 + i) : Nat) : Int)] H0)).val? (usesT (((128 + i) : Nat) : Int))) = true := by kernel_rfl
theorem tab9_17 : ((List.range 8).all fun i => tabI (Ly.run env.bare 60000 [] (Ly.start Try.f9 [.int .u8 (((136 + i) : Nat) : Int)] H0)).val? (usesT (((136 + i) : Nat) : Int))) = true := by kernel_rfl
theorem tab9_18 : ((List.range 8).all fun i => tabI (Ly.run env.bare 60000 [] (Ly.start Try.f9 [.int .u8 (((144 + i) : Nat) : Int)] H0)).val? (usesT (((144 + i) : Nat) : Int))) = true := by kernel_rfl
theorem tab9_19 : ((List.range 8).all fun i => tabI (Ly.run env.bare 60000 [] (Ly.start Try.f9 [.int .u8 (((152 + i) : Nat) : Int)] H0)).val? (usesT (((152 + i) : Nat) : Int))) = true := by kernel_rfl
theorem tab9_20 : ((List.range 8).all fun i => tabI (Ly.run env.bare 60000 [] (Ly.start Try.f9 [.int .u8 (((160 + i) : Nat) : Int)] H0)).val? (usesT (((160 + i) : Nat) : Int))) = true := by kernel_rfl
theorem tab9_21 : ((List.range 8).all fun i => tabI (Ly.run env.bare 60000 [] (Ly.start Try.f9 [.int .u8 (((168 + i) : Nat) : Int)] H0)).val? (usesT (((168 + i) : Nat) : Int))) = true := by kernel_rfl
theorem tab9_22 : ((List.range 8).all fun i => tabI (Ly.run env.bare 60000 [] (Ly.start Try.f9 [.int .u8 (((176 + i) : Nat) : Int)] H0)).val? (usesT (((176 + i) : Nat) : Int))) = true := by kernel_rfl
theorem tab9_23 : ((List.range 8).all fun i => tabI (Ly.run env.bare 60000 [] (Ly.start Try.f9 [.int .u8 (((184 + i) : Nat) : Int)] H0)).val? (usesT (((184 + i) : Nat) : Int))) = true := by kernel_rfl
theorem tab9_24 : ((List.range 8).all fun i => tabI (Ly.run env.bare 60000 [] (Ly.start Try.f9 [.int .u8 (((192 + i) : Nat) : Int)] H0)).val? (usesT (((192 + i) : Nat) : Int))) = true := by kernel_rfl
theorem tab9_25 : ((List.range 8).all fun i => tabI (Ly.run env.bare 60000 [] (Ly.start Try.f9 [.int .u8 (((200 + i) : Nat) : Int)] H0)).val? (usesT (((200 + i) : Nat) : Int))) = true := by kernel_rfl
theorem tab9_26 : ((List.range 8).all fun i => tabI (Ly.run env.bare 60000 [] (Ly.start Try.f9 [.int .u8 (((208 + i) : Nat) : Int)] H0)).val? (usesT (((208 + i) : Nat) : Int))) = true := by kernel_rfl
theorem tab9_27 : ((List.range 8).all fun i => tabI (Ly.run env.bare 60000 [] (Ly.start Try.f9 [.int .u8 (((216 + i) : Nat) : Int)] H0)).val? (usesT (((216 + i) : Nat) : Int))) = true := by kernel_rfl
theorem tab9_28 : ((List.range 8).all fun i => tabI (Ly.run env.bare 60000 [] (Ly.start Try.f9 [.int .u8 (((224 + i) : Nat) : Int)] H0)).val? (usesT (((224 + i) : Nat) : Int))) = true := by kernel_rfl
theorem tab9_29 : ((List.range 8).all fun i => tabI (Ly.run env.bare 60000 [] (Ly.start Try.f9 [.int .u8 (((232 + i) : Nat) : Int)] H0)).val? (usesT (((232 + i) : Nat) : Int))) = true := by kernel_rfl
theorem tab9_30 : ((List.range 8).all fun i => tabI (Ly.run env.bare 60000 [] (Ly.start Try.f9 [.int .u8 (((240 + i) : Nat) : Int)] H0)).val? (usesT (((240 + i) : Nat) : Int))) = true := by kernel_rfl
theorem tab9_31 : ((List.range 8).all fun i => tabI (Ly.run env.bare 60000 [] (Ly.start Try.f9 [.int .u8 (((248 + i) : Nat) : Int)] H0)).val? (usesT (((248 + i) : Nat) : Int))) = true := by kernel_rfl
end Go.Proofs.Ytdjmpilegommlaa
namespace Go.Proofs.Ytdjmpilegommlaa
open Go Go.Ly Go.RowKit
theorem tab11_0 : ((List.range 8).all fun i => tabI (Ly.run env.bare 60000 [] (Ly.start Try.f11 [.int .u8 (((0 + i) : Nat) : Int)] H0)).val? (setsT (((0 + i) : Nat) : Int))) = true := by kernel_rfl
theorem tab11_1 : ((List.range 8).all fun i => tabI (Ly.run env.bare 60000 [] (Ly.start Try.f11 [.int .u8 (((8 + i) : Nat) : Int)] H0)).val? (setsT (((8 + i) : Nat) : Int))) = true := by kernel_rfl
theorem tab11_2 : ((List.range 8).all fun i => tabI (Ly.run env.bare 60000 [] (Ly.start Try.f11 [.int .u8 (((16 + i) : Nat) : Int)] H0)).val? (setsT (((16 + i) : Nat) : Int))) = true := by kernel_rfl
theorem tab11_3 : ((List.range 8).all fun i => tabI (Ly.run env.bare 60000 [] (Ly.start Try.f11 [.int .u8 (((24 + i) : Nat) : Int)] H0)).val? (setsT (((24 + i) : Nat) : Int))) = true := by kernel_rfl
theorem tab11_4 : ((List.range 8).all fun i => tabI (Ly.run env.bare 60000 [] (Ly.start Try.f11 [.int .u8 (((32 + i) : Nat) : Int)] H0)).val? (setsT (((32 + i) : Nat) : Int))) = true := by kernel_rfl
theorem tab11_5 : ((List.range 8).all fun i => tabI (Ly.run env.bare 60000 [] (Ly.start Try.f11 [.int .u8 (((40 + i) : Nat) : Int)] H0)).val? (setsT (((40 + i) : Nat) : Int))) = true := by kernel_rfl
theorem tab11_6 : ((List.range 8).all fun i => tabI (Ly.run env.bare 60000 [] (Ly.start Try.f11 [.int .u8 (((48 + i) : Nat) : Int)] H0)).val? (setsT (((48 + i) : Nat) : Int))) = true := by kernel_rfl
theorem tab11_7 : ((List.range 8).all fun i => tabI (Ly.run env.bare 60000 [] (Ly.start Try.f11 [.int .u8 (((56 + i) : Nat) : Int)] H0)).val? (setsT (((56 + i) : Nat) : Int))) = true := by kernel_rfl
theorem tab11_8 : ((List.range 8).all fun i => tabI (Ly.run env.bare 60000 [] (Ly.start Try.f11 [.int .u8 (((64 + i) : Nat) : Int)] H0)).val? (setsT (((64 + i) : Nat) : Int))) = true := by kernel_rfl
theorem tab11_9 : ((List.range 8).all fun i => tabI (Ly.run env.bare 60000 [] (Ly.start Try.f11 [.int .u8 (((72 + i) : Nat) : Int)] H0)).val? (setsT (((72 + i) : Nat) : Int))) = true := by kernel_rfl
theorem tab11_10 : ((List.range 8).all fun i => tabI (Ly.run env.bare 60000 [] (Ly.start Try.f11 [.int .u8 (((80 + i) : Nat) : Int)] H0)).val? (setsT (((80 + i) : Nat) : Int))) = true := by kernel_rfl
theorem tab11_11 : ((List.range 8).all fun i => tabI (Ly.run env.bare 60000 [] (Ly.start Try.f11 [.int .u8 (((88 + i) : Nat) : Int)] H0)).val? (setsT (((88 + i) : Nat) : Int))) = true := by kernel_rfl
theorem tab11_12 : ((List.range 8).all fun i => tabI (Ly.run env.bare 60000 [] (Ly.start Try.f11 [.int .u8 (((96 + i) : Nat) : Int)] H0)).val? (setsT (((96 + i) : Nat) : Int))) = true := by kernel_rfl
theorem tab11_13 : ((List.range 8).all fun i => tabI (Ly.run env.bare 60000 [] (Ly.start Try.f11 [.int .u8 (((104 + i) : Nat) : Int)] H0)).val? (setsT (((104 + i) : Nat) : Int))) = true := by kernel_rfl
theorem tab11_14 : ((List.range 8).all fun i => tabI (Ly.run env.bare 60000 [] (Ly.start Try.f11 [.int .u8 (((112 + i) : Nat) : Int)] H0)).val? (setsT (((112 + i) : Nat) : Int))) = true := by kernel_rfl
theorem tab11_15 : ((List.range 8).all fun i => tabI (Ly.run env.bare 60000 [] (Ly.start Try.f11 [.int .u8 (((120 + i) : Nat) : Int)] H0)).val? (setsT (((120 + i) : Nat) : Int))) = true := by kernel_rfl
theorem tab11_16 : ((List.range 8).all fun i => tabI (Ly.run env.bare 60000 [] (Ly.start Try.f11 [.int .u8 (((128 + i) : Nat) : Int)] H0)).val? (setsT (((128 + i) : Nat) : Int))) = true := by kernel_rfl
theorem tab11_17 : ((List.range 8).all fun i => tabI (Ly.run env.bare 60000 [] (Ly.start Try.f11 [.int .u8 (((136 + i) : Nat) : Int)] H0)).val? (setsT (((136 + i) : Nat) : Int))) = true := by kernel_rfl
theorem tab11_18 : ((List.range 8).all fun i => tabI (Ly.run env.bare 60000 [] (Ly.start Try.f11 [.int .u8 (((144 + i) : Nat) : Int)] H0)).val? (setsT (((144 + i) : Nat) : Int))) = true := by kernel_rfl
theorem tab11_19 : ((List.range 8).all fun i => tabI (Ly.run env.bare 60000 [] (Ly.start Try.f11 [.int .u8 (((152 + i) : Nat) : Int)] H0)).val? (setsT (((152 + i) : Nat) : Int))) = true := by kernel_rfl
theorem tab11_20 : ((List.range 8).all fun i => tabI (Ly.run env.bare 60000 [] (Ly.start Try.f11 [.int .u8 (((160 + i) : Nat) : Int)] H0)).val? (setsT (((160 + i) : Nat) : Int))) = true := by kernel_rfl
theorem tab11_21 : ((List.range 8).all fun i => tabI (Ly.run env.bare 60000 [] (Ly.start Try.f11 [.int .u8 (((168 + i) : Nat) : Int)] H0)).val? (setsT (((168 + i) : Nat) : Int))) = true := by kernel_rfl
theorem tab11_22 : ((List.range 8).all fun i => tabI (Ly.run env.bare 60000 [] (Ly.start Try.f11 [.int .u8 (((176 + i) : Nat) : Int)] H0)).val? (setsT (((176 + i) : Nat) : Int))) = true := by kernel_rfl
theorem tab11_23 : ((List.range 8).all fun i => tabI (Ly.run env.bare 60000 [] (Ly.start Try.f11 [.int .u8 (((184 + i) : Nat) : Int)] H0)).val? (setsT (((184 + i) : Nat) : Int))) = true := by kernel_rfl
theorem tab11_24 : ((List.range 8).all fun i => tabI (Ly.run env.bare 60000 [] (Ly.start Try.f11 [.int .u8 (((192 + i) : Nat) : Int)] H0)).val? (setsT (((192 + i) : Nat) : Int))) = true := by kernel_rfl
theorem tab11_25 : ((List.range 8).all fun i => tabI (Ly.run env.bare 60000 [] (Ly.start Try.f11 [.int .u8 (((200 + i) : Nat) : Int)] H0)).val? (setsT (((200 + i) : Nat) : Int))) = true := by kernel_rfl
theorem tab11_26 : ((List.range 8).all fun i => tabI (Ly.run env.bare 60000 [] (Ly.start Try.f11 [.int .u8 (((208 + i) : Nat) : Int)] H0)).val? (setsT (((208 + i) : Nat) : Int))) = true := by kernel_rfl
theorem tab11_27 : ((List.range 8).all fun i => tabI (Ly.run env.bare 60000 [] (Ly.start Try.f11 [.int .u8 (((216 + i) : Nat) : Int)] H0)).val? (setsT (((216 + i) : Nat) : Int))) = true := by kernel_rfl
theorem tab11_28 : ((List.range 8).all fun i => tabI (Ly.run env.bare 60000 [] (Ly.start Try.f11 [.int .u8 (((224 + i) : Nat) : Int)] H0)).val? (setsT (((224 + i) : Nat) : Int))) = true := by kernel_rfl
theorem tab11_29 : ((List.range 8).all fun i => tabI (Ly.run env.bare 60000 [] (Ly.start Try.f11 [.int .u8 (((232 + i) : Nat) : Int)] H0)).val? (setsT (((232 + i) : Nat) : Int))) = true := by kernel_rfl
theorem tab11_30 : ((List.range 8).all fun i => tabI (Ly.run env.bare 60000 [] (Ly.start Try.f11 [.int .u8 (((240 + i) : Nat) : Int)] H0)).val? (setsT (((240 + i) : Nat) : Int))) = true := by kernel_rfl
theorem tab11_31 : ((List.range 8).all fun i => tabI (Ly.run env.bare 60000 [] (Ly.start Try.f11 [.int .u8 (((248 + i) : Nat) : Int)] H0)).val? (setsT (((248 + i) : Nat) : Int))) = true := by kernel_rfl
end Go.Proofs.Ytdjmpilegommlaa
namespace Go.Proofs.Ytdjmpilegommlaa
open Go Go.Ly Go.RowKit
theorem tab9_all (n : Nat) (h : n < 256) : tabI (Ly.run env.bare 60000 [] (Ly.start Try.f9 [.int .u8 ((n : Nat) : Int)] H0)).val? (usesT ((n : Nat) : Int)) = true := by
  rcases Nat.lt_or_ge n 8 with g0 | g0
  · exact range_all (p := fun n => tabI (Ly.run env.bare 60000 [] (Ly.start Try.f9 [.int .u8 ((n : Nat) : Int)] H0)).val? (usesT ((n : Nat) : Int))) tab9_0 n (by omega) (by omega)
  rcases Nat.lt_or_ge n 16 with g1 | g1
  · exact range_all (p := fun n => tabI (Ly.run env.bare 60000 [] (Ly.start Try.f9 [.int .u8 ((n : Nat) : Int)] H0)).val? (usesT ((n : Nat) : Int))) tab9_1 n (by omega) (by omega)
  rcases Nat.lt_or_ge n 24 with g2 | g2
  · exact range_all (p := fun n => tabI (Ly.run env.bare 60000 [] (Ly.start Try.f9 [.int .u8 ((n : Nat) : Int)] H0)).val? (usesT ((n : Nat) : Int))) tab9_2 n (by omega) (by omega)
  rcases Nat.lt_or_ge n 32 with g3 | g3
  · exact range_all (p := fun n => tabI (Ly.run env.bare 60000 [] (Ly.start Try.f9 [.int .u8 ((n : Nat) : Int)] H0)).val? (usesT ((n : Nat) : Int))) tab9_3 n (by omega) (by omega)
  rcases Nat.lt_or_ge n 40 with g4 | g4
  · exact range_all (p := fun n => tabI (Ly.run env.bare 60000 [] (Ly.start Try.f9 [.int .u8 ((n : Nat) : Int)] H0)).val? (usesT ((n : Nat) : Int))) tab9_4 n (by omega) (by omega)
  rcases Nat.lt_or_ge n 48 with g5 | g5
  · exact range_all (p := fun n => tabI (Ly.run env.bare 60000 [] (Ly.start Try.f9 [.int .u8 ((n : Nat) : Int)] H0)).val? (usesT ((n : Nat) : Int))) tab9_5 n (by omega) (by omega)
  rcases Nat.lt_or_ge n 56 with g6 | g6
  · exact range_all (p := fun n => tabI (Ly.run env.bare 60000 [] (Ly.start Try.f9 [.int .u8 ((n : Nat) : Int)] H0)).val? (usesT ((n : Nat) : Int))) tab9_6 n (by omega) (by omega)
  rcases Nat.lt_or_ge n 64 with g7 | g7
  · exact range_all (p := fun n => tabI (Ly.run env.bare 60000 [] (Ly.start Try.f9 [.int .u8 ((n : Nat) : Int)] H0)).val? (usesT ((n : Nat) : Int))) tab9_7 n (by omega) (by omega)
  rcases Nat.lt_or_ge n 72 with g8 | g8
  · exact range_all (p := fun n => tabI (Ly.run env.bare 60000 [] (Ly.start Try.f9 [.int .u8 ((n : Nat) : Int)] H0)).val? (usesT ((n : Nat) : Int))) tab9_8 n (by omega) (by omega)
  rcases Nat.lt_or_ge n 80 with g9 | g9
  · exact range_all (p := fun n => tabI (Ly.run env.bare 60000 [] (Ly.start Try.f9 [.int .u8 ((n : Nat) : Int)] H0)).val? (usesT ((n : Nat) : Int))) tab9_9 n (by omega) (by omega)
  rcases Nat.lt_or_ge n 88 with g10 | g10
  · exact range_all (p := fun n => tabI (Ly.run env.bare 60000 [] (Ly.start Try.f9 [.int .u8 ((n : Nat) : Int)] H0)).val? (usesT ((n : Nat) : Int))) tab9_10 n (by omega) (by omega)
  rcases Nat.lt_or_ge n 96 with g11 | g11
  · exact range_all (p := fun n => tabI (Ly.run env.bare 60000 [] (Ly.start Try.f9 [.int .u8 ((n : Nat) : Int)] H0)).val? (usesT ((n : Nat) : Int))) tab9_11 n (by omega) (by omega)
  rcases Nat.lt_or_ge n 104 with g12 | g12
  · exact range_all (p := fun n => tabI (Ly.run env.bare 60000 [] (Ly.start Try.f9 [.int .u8 ((n : Nat) : Int)] H0)).val? (usesT ((n : Nat) : Int))) tab9_12 n (by omega) (by omega)
  rcases Nat.lt_or_ge n 112 with g13 | g13
  · exact range_all (p := fun n => tabI (Ly.run env.bare 60000 [] (Ly.start Try.f9 [.int .u8 ((n : Nat) : Int)] H0)).val? (usesT ((n : Nat) : Int))) tab9_13 n (by omega) (by omega)
  rcases Nat.lt_or_ge n 120 with g14 | g14
  · exact range_all (p := fun n => tabI (Ly.run env.bare 60000 [] (Ly.start Try.f9 [.int .u8 ((n : Nat) : Int)] H0)).val? (usesT ((n : Nat) : Int))) tab9_14 n (by omega) (by omega)
  rcases Nat.lt_or_ge n 128 with g15 | g15
  · exact range_all (p := fun n => tabI (Ly.run env.bare 60000 [] (Ly.start Try.f9 [.int .u8 ((n : Nat) : Int)] H0)).val? (usesT ((n : Nat) : Int))) tab9_15 n (by omega) (by omega)
  rcases Nat.lt_or_ge n 136 with g16 | g16
  · exact range_all (p := fun n => tabI (Ly.run env.bare 60000 [] (Ly.start Try.f9 [.int .u8 ((n : Nat) : Int)] H0)).val? (usesT ((n : Nat) : Int))) tab9_16 n (by omega) (by omega)
  rcases Nat.lt_or_ge n 144 with g17 | g17
  · exact range_all (p := fun n => tabI (Ly.run env.bare 60000 [] (Ly.start Try.f9 [.int .u8 ((n : Nat) : Int)] H0)).val? (usesT ((n : Nat) : Int))) tab9_17 n (by omega) (by omega)
  rcases Nat.lt_or_ge n 152 with g18 | g18
  · exact range_all (p := fun n => tabI (Ly.run env.bare 60000 [] (Ly.start Try.f9 [.int .u8 ((n : Nat) : Int)] H0)).val? (usesT ((n : Nat) : Int))) tab9_18 n (by omega) (by omega)
  rcases Nat.lt_or_ge n 160 with g19 | g19
  · exact range_all (p := fun n => tabI (Ly.run env.bare 60000 [] (Ly.start Try.f9 [.int .u8 ((n : Nat) : Int)] H0)).val? (usesT ((n : Nat) : Int))) tab9_19 n (by omega) (by omega)
  rcases Nat.lt_or_ge n 168 with g20 | g20
  · exact range_all (p := fun n => tabI (Ly.run env.bare 60000 [] (Ly.start Try.f9 [.int .u8 ((n : Nat) : Int)] H0)).val? (usesT ((n : Nat) : Int))) tab9_20 n (by omega) (by omega)
  rcases Nat.lt_or_ge n 176 with g21 | g21
  · exact range_all (p := fun n => tabI (Ly.run env.bare 60000 [] (Ly.start Try.f9 [.int .u8 ((n : Nat) : Int)] H0)).val? (usesT ((n : Nat) : Int))) tab9_21 n (by omega) (by omega)
  rcases Nat.lt_or_ge n 184 with g22 | g22
  · exact range_all (p := fun n => tabI (Ly.run env.bare 60000 [] (Ly.start Try.f9 [.int .u8 ((n : Nat) : Int)] H0)).val? (usesT ((n : Nat) : Int))) tab9_22 n (by omega) (by omega)
  rcases Nat.lt_or_ge n 192 with g23 | g23
  · exact range_all (p := fun n => tabI (Ly.run env.bare 60000 [] (Ly.start Try.f9 [.int .u8 ((n : Nat) : Int)] H0)).val? (usesT ((n : Nat) : Int))) tab9_23 n (by omega) (by omega)
  rcases Nat.lt_or_ge n 200 with g24 | g24
  · exact range_all (p := fun n => tabI (Ly.run env.bare 60000 [] (Ly.start Try.f9 [.int .u8 ((n : Nat) : Int)] H0)).val? (usesT ((n : Nat) : Int))) tab9_24 n (by omega) (by omega)
  rcases Nat.lt_or_ge n 208 with g25 | g25
  · exact range_all (p := fun n => tabI (Ly.run env.bare 60000 [] (Ly.start Try.f9 [.int .u8 ((n : Nat) : Int)] H0)).val? (usesT ((n : Nat) : Int))) tab9_25 n (by omega) (by omega)
  rcases Nat.lt_or_ge n 216 with g26 | g26
  · exact range_all (p := fun n => tabI (Ly.run env.bare 60000 [] (Ly.start Try.f9 [.int .u8 ((n : Nat) : Int)] H0)).val? (usesT ((n : Nat) : Int))) tab9_26 n (by omega) (by omega)
  rcases Nat.lt_or_ge n 224 with g27 | g27
  · exact range_all (p := fun n => tabI (Ly.run env.bare 60000 [] (Ly.start Try.f9 [.int .u8 ((n : Nat) : Int)] H0)).val? (usesT ((n : Nat) : Int))) tab9_27 n (by omega) (by omega)
  rcases Nat.lt_or_ge n 232 with g28 | g28
  · exact range_all (p := fun n => tabI (Ly.run env.bare 60000 [] (Ly.start Try.f9 [.int .u8 ((n : Nat) : Int)] H0)).val? (usesT ((n : Nat) : Int))) tab9_28 n (by omega) (by omega)
  rcases Nat.lt_or_ge n 240 with g29 | g29
  · exact range_all (p := fun n => tabI (Ly.run env.bare 60000 [] (Ly.start Try.f9 [.int .u8 ((n : Nat) : Int)] H0)).val? (usesT ((n : Nat) : Int))) tab9_29 n (by omega) (by omega)
  rcases Nat.lt_or_ge n 248 with g30 | g30
  · exact range_all (p := fun n => tabI (Ly.run env.bare 60000 [] (Ly.start Try.f9 [.int .u8 ((n : Nat) : Int)] H0)).val? (usesT ((n : Nat) : Int))) tab9_30 n (by omega) (by omega)
  rcases Nat.lt_or_ge n 256 with g31 | g31
  · exact range_all (p := fun n => tabI (Ly.run env.bare 60000 [] (Ly.start Try.f9 [.int .u8 ((n : Nat) : Int)] H0)).val? (usesT ((n : Nat) : Int))) tab9_31 n (by omega) (by omega)
  omega
theorem tab9_get : env.bare.fn.get 9 = some Try.f9 := by kernel_rfl
theorem tab9_ans : Answers Try.prog 9 (tabC usesT) := tab_ans tab9_get (by kernel_rfl) (fun n h => tab9_all n h)
theorem tab11_all (n : Nat) (h : n < 256) : tabI (Ly.run env.bare 60000 [] (Ly.start Try.f11 [.int .u8 ((n : Nat) : Int)] H0)).val? (setsT ((n : Nat) : Int)) = true := by
  rcases Nat.lt_or_ge n 8 with g0 | g0
  · exact range_all (p := fun n => tabI (Ly.run env.bare 60000 [] (Ly.start Try.f11 [.int .u8 ((n : Nat) : Int)] H0)).val? (setsT ((n : Nat) : Int))) tab11_0 n (by omega) (by omega)
  rcases Nat.lt_or_ge n 16 with g1 | g1
  · exact range_all (p := fun n => tabI (Ly.run env.bare 60000 [] (Ly.start Try.f11 [.int .u8 ((n : Nat) : Int)] H0)).val? (setsT ((n : Nat) : Int))) tab11_1 n (by omega) (by omega)
  rcases Nat.lt_or_ge n 24 with g2 | g2
  · exact range_all (p := fun n => tabI (Ly.run env.bare 60000 [] (Ly.start Try.f11 [.int .u8 ((n : Nat) : Int)] H0)).val? (setsT ((n : Nat) : Int))) tab11_2 n (by omega) (by omega)
  rcases Nat.lt_or_ge n 32 with g3 | g3
  · exact range_all (p := fun n => tabI (Ly.run env.bare 60000 [] (Ly.start Try.f11 [.int .u8 ((n : Nat) : Int)] H0)).val? (setsT ((n : Nat) : Int))) tab11_3 n (by omega) (by omega)
  rcases Nat.lt_or_ge n 40 with g4 | g4
  · exact range_all (p := fun n => tabI (Ly.run env.bare 60000 [] (Ly.start Try.f11 [.int .u8 ((n : Nat) : Int)] H0)).val? (setsT ((n : Nat) : Int))) tab11_4 n (by omega) (by omega)
  rcases Nat.lt_or_ge n 48 with g5 | g5
  · exact range_all (p := fun n => tabI (Ly.run env.bare 60000 [] (Ly.start Try.f11 [.int .u8 ((n : Nat) : Int)] H0)).val? (setsT ((n : Nat) : Int))) tab11_5 n (by omega) (by omega)
  rcases Nat.lt_or_ge n 56 with g6 | g6
  · exact range_all (p := fun n => tabI (Ly.run env.bare 60000 [] (Ly.start Try.f11 [.int .u8 ((n : Nat) : Int)] H0)).val? (setsT ((n : Nat) : Int))) tab11_6 n (by omega) (by omega)
  rcases Nat.lt_or_ge n 64 with g7 | g7
  · exact range_all (p := fun n => tabI (Ly.run env.bare 60000 [] (Ly.start Try.f11 [.int .u8 ((n : Nat) : Int)] H0)).val? (setsT ((n : Nat) : Int))) tab11_7 n (by omega) (by omega)
  rcases Nat.lt_or_ge n 72 with g8 | g8
  · exact range_all (p := fun n => tabI (Ly.run env.bare 60000 [] (Ly.start Try.f11 [.int .u8 ((n : Nat) : Int)] H0)).val? (setsT ((n : Nat) : Int))) tab11_8 n (by omega) (by omega)
  rcases Nat.lt_or_ge n 80 with g9 | g9
  · exact range_all (p := fun n => tabI (Ly.run env.bare 60000 [] (Ly.start Try.f11 [.int .u8 ((n : Nat) : Int)] H0)).val? (setsT ((n : Nat) : Int))) tab11_9 n (by omega) (by omega)
  rcases Nat.lt_or_ge n 88 with g10 | g10
  · exact range_all (p := fun n => tabI (Ly.run env.bare 60000 [] (Ly.start Try.f11 [.int .u8 ((n : Nat) : Int)] H0)).val? (setsT ((n : Nat) : Int))) tab11_10 n (by omega) (by omega)
  rcases Nat.lt_or_ge n 96 with g11 | g11
  · exact range_all (p := fun n => tabI (Ly.run env.bare 60000 [] (Ly.start Try.f11 [.int .u8 ((n : Nat) : Int)] H0)).val? (setsT ((n : Nat) : Int))) tab11_11 n (by omega) (by omega)
  rcases Nat.lt_or_ge n 104 with g12 | g12
  · exact range_all (p := fun n => tabI (Ly.run env.bare 60000 [] (Ly.start Try.f11 [.int .u8 ((n : Nat) : Int)] H0)).val? (setsT ((n : Nat) : Int))) tab11_12 n (by omega) (by omega)
  rcases Nat.lt_or_ge n 112 with g13 | g13
  · exact range_all (p := fun n => tabI (Ly.run env.bare 60000 [] (Ly.start Try.f11 [.int .u8 ((n : Nat) : Int)] H0)).val? (setsT ((n : Nat) : Int))) tab11_13 n (by omega) (by omega)
  rcases Nat.lt_or_ge n 120 with g14 | g14
  · exact range_all (p := fun n => tabI (Ly.run env.bare 60000 [] (Ly.start Try.f11 [.int .u8 ((n : Nat) : Int)] H0)).val? (setsT ((n : Nat) : Int))) tab11_14 n (by omega) (by omega)
  rcases Nat.lt_or_ge n 128 with g15 | g15
  · exact range_all (p := fun n => tabI (Ly.run env.bare 60000 [] (Ly.start Try.f11 [.int .u8 ((n : Nat) : Int)] H0)).val? (setsT ((n : Nat) : Int))) tab11_15 n (by omega) (by omega)
  rcases Nat.lt_or_ge n 136 with g16 | g16
  · exact range_all (p := fun n => tabI (Ly.run env.bare 60000 [] (Ly.start Try.f11 [.int .u8 ((n : Nat) : Int)] H0)).val? (setsT ((n : Nat) : Int))) tab11_16 n (by omega) (by omega)
  rcases Nat.lt_or_ge n 144 with g17 | g17
  · exact range_all (p := fun n => tabI (Ly.run env.bare 60000 [] (Ly.start Try.f11 [.int .u8 ((n : Nat) : Int)] H0)).val? (setsT ((n : Nat) : Int))) tab11_17 n (by omega) (by omega)
  rcases Nat.lt_or_ge n 152 with g18 | g18
  · exact range_all (p := fun n => tabI (Ly.run env.bare 60000 [] (Ly.start Try.f11 [.int .u8 ((n : Nat) : Int)] H0)).val? (setsT ((n : Nat) : Int))) tab11_18 n (by omega) (by omega)
  rcases Nat.lt_or_ge n 160 with g19 | g19
  · exact range_all (p := fun n => tabI (Ly.run env.bare 60000 [] (Ly.start Try.f11 [.int .u8 ((n : Nat) : Int)] H0)).val? (setsT ((n : Nat) : Int))) tab11_19 n (by omega) (by omega)
  rcases Nat.lt_or_ge n 168 with g20 | g20
  · exact range_all (p := fun n => tabI (Ly.run env.bare 60000 [] (Ly.start Try.f11 [.int .u8 ((n : Nat) : Int)] H0)).val? (setsT ((n : Nat) : Int))) tab11_20 n (by omega) (by omega)
  rcases Nat.lt_or_ge n 176 with g21 | g21
  · exact range_all (p := fun n => tabI (Ly.run env.bare 60000 [] (Ly.start Try.f11 [.int .u8 ((n : Nat) : Int)] H0)).val? (setsT ((n : Nat) : Int))) tab11_21 n (by omega) (by omega)
  rcases Nat.lt_or_ge n 184 with g22 | g22
  · exact range_all (p := fun n => tabI (Ly.run env.bare 60000 [] (Ly.start Try.f11 [.int .u8 ((n : Nat) : Int)] H0)).val? (setsT ((n : Nat) : Int))) tab11_22 n (by omega) (by omega)
  rcases Nat.lt_or_ge n 192 with g23 | g23
  · exact range_all (p := fun n => tabI (Ly.run env.bare 60000 [] (Ly.start Try.f11 [.int .u8 ((n : Nat) : Int)] H0)).val? (setsT ((n : Nat) : Int))) tab11_23 n (by omega) (by omega)
  rcases Nat.lt_or_ge n 200 with g24 | g24
  · exact range_all (p := fun n => tabI (Ly.run env.bare 60000 [] (Ly.start Try.f11 [.int .u8 ((n : Nat) : Int)] H0)).val? (setsT ((n : Nat) : Int))) tab11_24 n (by omega) (by omega)
  rcases Nat.lt_or_ge n 208 with g25 | g25
  · exact range_all (p := fun n => tabI (Ly.run env.bare 60000 [] (Ly.start Try.f11 [.int .u8 ((n : Nat) : Int)] H0)).val? (setsT ((n : Nat) : Int))) tab11_25 n (by omega) (by omega)
  rcases Nat.lt_or_ge n 216 with g26 | g26
  · exact range_all (p := fun n => tabI (Ly.run env.bare 60000 [] (Ly.start Try.f11 [.int .u8 ((n : Nat) : Int)] H0)).val? (setsT ((n : Nat) : Int))) tab11_26 n (by omega) (by omega)
  rcases Nat.lt_or_ge n 224 with g27 | g27
  · exact range_all (p := fun n => tabI (Ly.run env.bare 60000 [] (Ly.start Try.f11 [.int .u8 ((n : Nat) : Int)] H0)).val? (setsT ((n : Nat) : Int))) tab11_27 n (by omega) (by omega)
  rcases Nat.lt_or_ge n 232 with g28 | g28
  · exact range_all (p := fun n => tabI (Ly.run env.bare 60000 [] (Ly.start Try.f11 [.int .u8 ((n : Nat) : Int)] H0)).val? (setsT ((n : Nat) : Int))) tab11_28 n (by omega) (by omega)
  rcases Nat.lt_or_ge n 240 with g29 | g29
  · exact range_all (p := fun n => tabI (Ly.run env.bare 60000 [] (Ly.start Try.f11 [.int .u8 ((n : Nat) : Int)] H0)).val? (setsT ((n : Nat) : Int))) tab11_29 n (by omega) (by omega)
  rcases Nat.lt_or_ge n 248 with g30 | g30
  · exact range_all (p := fun n => tabI (Ly.run env.bare 60000 [] (Ly.start Try.f11 [.int .u8 ((n : Nat) : Int)] H0)).val? (setsT ((n : Nat) : Int))) tab11_30 n (by omega) (by omega)
  rcases Nat.lt_or_ge n 256 with g31 | g31
  · exact range_all (p := fun n => tabI (Ly.run env.bare 60000 [] (Ly.start Try.f11 [.int .u8 ((n : Nat) : Int)] H0)).val? (setsT ((n : Nat) : Int))) tab11_31 n (by omega) (by omega)
  omega
theorem tab11_get : env.bare.fn.get 11 = some Try.f11 := by kernel_rfl
theorem tab11_ans : Answers Try.prog 11 (tabC setsT) := tab_ans tab11_get (by kernel_rfl) (fun n h => tab11_all n h)
end Go.Proofs.Ytdjmpilegommlaa
namespace Go.Proofs.Ytdjmpilegommlaa
open Go Go.Ly Go.RowKit
def ctx1 : Ctx := env.bare.withC 20 (conTree env.bare 3000 20) |>.withC 26 (conTree env.bare 300 26) |>.withC 37 (conTree env.bare 600 37) |>.withC 33 (conTree env.bare 300 33)
theorem ctx1_ok : ctx1.Ok Try.prog := ((((Env.bare_ok envOk).byCon (Env.bare_ok envOk) 3000 20).byCon (Env.bare_ok envOk) 300 26).byCon (Env.bare_ok envOk) 600 37).byCon (Env.bare_ok envOk) 300 33
def ctx2 : Ctx := ctx1.withC 9 (conTree ctx1 3000 9) |>.withC 11 (conTree ctx1 3000 11) |>.withC 38 (conTree ctx1 600 38) |>.withC 39 (conTree ctx1 600 39) |>.withC 57 (conTree ctx1 6000 57) |>.withH 41 (hconTree ctx1 600 41)
theorem ctx2_ok : ctx2.Ok Try.prog := (((((ctx1_ok.byCon ctx1_ok 3000 9).byCon ctx1_ok 3000 11).byCon ctx1_ok 600 38).byCon ctx1_ok 600 39).byCon ctx1_ok 6000 57).byRun ctx1_ok 600 41
end Go.Proofs.Ytdjmpilegommlaa
namespace Go.Proofs.Ytdjmpilegommlaa
open Go Go.Ly Go.RowKit
theorem getAl13 : ctx2.fn.get 13 = some Try.f13 := by kernel_rfl
set_option maxRecDepth 100000 in
theorem run13 : (Ly.run ctx2 100000 [] (Ly.start Try.f13 [] H0)).out? = some ([], .bool true) := by kernel_rfl
def aliveC (l : List Value) : Option (Bool × Value) := match l with
  | [] => some (true, .bool true)
  | _ => none
theorem alive_ans : Answers Try.prog 13 aliveC := by
  intro args g v h hg
  unfold aliveC at h
  split at h
  · simp only [Option.some.injEq, Prod.mk.injEq] at h
    obtain ⟨rfl, rfl⟩ := h
    exact ⟨by simp [plainL], by simp [plain], fun w => calls_trust ctx2_ok 100000 [] getAl13 (by kernel_rfl) (by simp [plainL]) (by simp [plain]) run13 trivial w⟩
  · cases h
end Go.Proofs.Ytdjmpilegommlaa
namespace Go.Proofs.Ytdjmpilegommlaa
open Go Go.Ly Go.RowKit
def mkF (s z x p c : Bool) : Int := cI s + 2 * cI z + 4 * cI x + 8 * cI p + 16 * cI c
def maskC (l : List Value) : Option (Bool × Value) := match l with
  | [.agg ⟨[.bool s, .bool z, .bool x, .bool p, .bool c]⟩] => some (true, .int .i64 (mkF s z x p c))
  | _ => none
theorem gF22 : env.bare.fn.get 22 = some Try.f22 := by kernel_rfl
theorem maskR (s z x p c : Bool) : (Ly.run env.bare 2000 [] (Ly.start Try.f22 [.agg ⟨[.bool s, .bool z, .bool x, .bool p, .bool c]⟩] H0)).out? = some ([], .int .i64 (mkF s z x p c)) := by
  cases s <;> cases z <;> cases x <;> cases p <;> cases c <;> kernel_rfl
theorem mask_ans : Answers Try.prog 22 maskC := by
  intro args g v h hg
  unfold maskC at h
  split at h
  · simp only [Option.some.injEq, Prod.mk.injEq] at h
    obtain ⟨rfl, rfl⟩ := h
    exact ⟨by simp [plain, plainL], by simp [plain], fun w => calls_trust (Env.bare_ok envOk) 2000 [] gF22 (by kernel_rfl) (by simp [plain, plainL]) (by simp [plain]) (maskR _ _ _ _ _) trivial w⟩
  · cases h
def cxM : Ctx := cx0 |>.with 9 (tabC usesT) |>.with 11 (tabC setsT) |>.with 13 aliveC |>.with 22 maskC
theorem cxM_ok : cxM.Ok Try.prog := cx0_ok.with tab9_ans |>.with tab11_ans |>.with alive_ans |>.with mask_ans
end Go.Proofs.Ytdjmpilegommlaa
namespace Go.Proofs.Ytdjmpilegommlaa
open Go Go.Ly Go.RowKit
def cxC : Ctx := env.bare.withC 32 (conTree env.bare 300 32)
theorem cxC_ok : cxC.Ok Try.prog := (Env.bare_ok envOk).byCon (Env.bare_ok envOk) 300 32
def soD : St := Ly.start Try.f31 [] H0
def soF : Value := .func (.func 32) ⟨[]⟩ ⟨[]⟩
def soK : List KI := ((Ly.run cxC 14 [] (Ly.start Try.f31 [sls 0 0, soF] (mkH [some (ndL (fun _ => 0) (fun _ => 0) (fun _ => 0) 0)]))).st soD).top.k
def soV (k : Nat) (i : Int) : List Value := slots 25 [(0, sls 0 k), (1, soF), (5, .int .i64 i)]
theorem soG : cxC.fn.get 31 = some Try.f31 := by kernel_rfl
theorem so_0 (a o n : Nat → Int) (k : Nat) : headAt [0, 1, 5] [0] soD (Ly.run cxC 14 [] (Ly.start Try.f31 [sls 0 k, soF] (mkH [some (ndL a o n k)]))) = (true, [], true, (Try.f31, soK, none, 1), soV k (IntKind.i64.wrap ((k : Int) - 1)), [some (ndL a o n k)]) := by kernel_rfl
theorem so_T (a o n : Nat → Int) (k : Nat) (i : Int) : (Ly.run cxC 200 [(0, false)] (mkSt Try.f31 soK none 1 (soV k i) [some (ndL a o n k)])).out? = some ([(decide (0 < i), false)], .bool true) := by kernel_rfl
def soX (a : Nat → Int) (i : Int) : Int := a (0 + i.toNat)
def soW (i : Int) : Int := IntKind.i64.wrap (i - 1)
def soT (a : Nat → Int) (k : Nat) (i : Int) (l : List (Bool × Bool)) : List (Bool × Bool) := (decide (0 < i), true) :: (ixB k i, true) :: (Nat.blt (0 + i.toNat) k, true) :: (ixB k (soW i), true) :: (Nat.blt (0 + (soW i).toNat) k, true) :: (soX a i != soX a i, false) :: (soX a (soW i) != soX a (soW i), false) :: l
def soP (l : Path) : Path := (0, true) :: (0, true) :: (0, true) :: (0, true) :: (0, true) :: (0, false) :: (0, false) :: l
theorem so_I (a o n : Nat → Int) (k : Nat) (i : Int) : headAt [0, 1, 5] [0] soD (Ly.run cxC 21 (soP [(0, false), (0, true)]) (mkSt Try.f31 soK none 1 (soV k i) [some (ndL a o n k)])) = (true, soT a k i [(decide (soX a i < soX a (soW i)), false), (decide (soX a (soW i) < soX a i), true)], true, (Try.f31, soK, none, 1), soV k (soW i), [some (ndL a o n k)]) := by kernel_rfl
theorem so_J (a o n : Nat → Int) (k : Nat) (i : Int) : headAt [0, 1, 5] [0] soD (Ly.run cxC 21 (soP [(0, false), (0, false)]) (mkSt Try.f31 soK none 1 (soV k i) [some (ndL a o n k)])) = (true, soT a k i [(decide (soX a i < soX a (soW i)), false), (decide (soX a (soW i) < soX a i), false)], true, (Try.f31, soK, none, 1), soV k (soW i), [some (ndL a o n k)]) := by kernel_rfl
theorem so_E (a o n : Nat → Int) (k : Nat) (i : Int) : (Ly.run cxC 200 (soP [(0, true)]) (mkSt Try.f31 soK none 1 (soV k i) [some (ndL a o n k)])).out? = some (soT a k i [(decide (soX a i < soX a (soW i)), true)], .bool false) := by kernel_rfl
def soN (a : Nat → Int) : Nat → Bool
  | 0 => true
  | i + 1 => bif decide (a (i + 1) < a i) then false else soN a i
theorem so_loop (a o n : Nat → Int) (k : Nat) (hk : k ≤ 4294967000) : ∀ (i : Nat), i < k → MWp Try.prog (mkSt Try.f31 soK none 1 (soV k i) [some (ndL a o n k)]) (fun v _ => v = .bool (soN a i))
  | 0, _ => MWp.out cxC_ok 200 _ (so_T a o n k 0) (by simp [trusted]) (fun _ => rfl)
  | i + 1, hi => by
    obtain ⟨h1, h2, h3, h4⟩ := ix_tests hi
    obtain ⟨g1, g2, g3, g4⟩ := ix_tests (show i < k by omega)
    have hw : soW ((i + 1 : Nat) : Int) = (i : Int) := by unfold soW; rw [IntKind.wrap_i64]; omega
    have h0 : decide ((0 : Int) < ((i + 1 : Nat) : Int)) = true := by simp
    have x1 : soX a ((i + 1 : Nat) : Int) = a (i + 1) := by unfold soX; rw [h3]
    have x2 : soX a (i : Int) = a i := by unfold soX; rw [g3]
    have nn : ∀ x : Int, (x != x) = false := fun x => by simp
    cases c : decide (a (i + 1) < a i) with
    | true =>
      refine MWp.out cxC_ok 200 _ (so_E a o n k ((i + 1 : Nat) : Int)) (by simp only [soT, trusted, hw, h0, h2, h3, h4, g2, g3, g4, x1, x2, nn, c, and_self]) (fun _ => ?_)
      simp only [soN, c, cond_true]
    | false =>
      have e : soN a (i + 1) = soN a i := by simp only [soN, c, cond_false]
      cases c2 : decide (a i < a (i + 1)) with
      | true =>
        refine MWp.head cxC_ok _ _ _ _ (so_I a o n k ((i + 1 : Nat) : Int)) (by simp only [soT, trusted, hw, h0, h2, h3, h4, g2, g3, g4, x1, x2, nn, c, c2, and_self]) (ow_P a o n k) ?_
        rw [hw, e]; exact so_loop a o n k hk i (by omega)
      | false =>
        refine MWp.head cxC_ok _ _ _ _ (so_J a o n k ((i + 1 : Nat) : Int)) (by simp only [soT, trusted, hw, h0, h2, h3, h4, g2, g3, g4, x1, x2, nn, c, c2, and_self]) (ow_P a o n k) ?_
        rw [hw, e]; exact so_loop a o n k hk i (by omega)
theorem so_calls (a o n : Nat → Int) (k : Nat) (hk : k ≤ 4294967000) : LCalls Try.prog 31 [sls 0 k, soF] (mkH [some (ndL a o n k)]) (fun v _ => v = .bool (soN a (k - 1))) := by
  refine LCalls_of cxC_ok soG (by kernel_rfl) ?_
  refine MWp.head cxC_ok _ _ _ _ (so_0 a o n k) trivial (ow_P a o n k) ?_
  rcases k with _ | k
  · exact MWp.out cxC_ok 200 _ (so_T a o n 0 _) (by simp [trusted, IntKind.wrap_i64]) (fun _ => rfl)
  · have hw : IntKind.i64.wrap (((k + 1 : Nat) : Int) - 1) = (k : Int) := by rw [IntKind.wrap_i64]; omega
    rw [hw]
    exact so_loop a o n (k + 1) hk k (by omega)
theorem soN_spec {a : Nat → Int} : ∀ (i : Nat), soN a i = true ↔ ∀ e, e < i → a e ≤ a (e + 1)
  | 0 => by simp [soN]
  | i + 1 => by
    unfold soN
    cases c : decide (a (i + 1) < a i) with
    | true =>
      simp only [cond_true, Bool.false_eq_true, false_iff]
      intro h
      have := h i (by omega)
      have := of_decide_eq_true c
      omega
    | false =>
      simp only [cond_false]
      rw [soN_spec i]
      have c := of_decide_eq_false c
      refine ⟨fun h e he => ?_, fun h e he => h e (by omega)⟩
      by_cases h1 : e = i
      · subst h1; omega
      · exact h e (by omega)
end Go.Proofs.Ytdjmpilegommlaa
namespace Go.Ly
open Go.RowKit
structure Tgt where
  T : Ren → World → (Value → World → Prop) → Prop
  step : ∀ {ρ ρ' : Ren} {w w' : World} {R : Value → World → Prop}, T ρ w R → Ren.le ρ ρ' → Fresh ρ ρ' w → Keep ρ w w' → T ρ' w' R
def MWpT (P : Program) (S : St) (T : Tgt) : Prop := ∀ (ρ : Ren) (w : World) (g : AF) (gs : List AF) (R : Value → World → Prop), Rep ρ S.H w → FR ρ S.top g → FRL ρ S.rest gs → T.T ρ w R → stateWp P g gs R w
def SR.satT (P : Program) (T : Tgt) : SR → Prop
  | .go S => MWpT P S T
  | .tst b x y => (b = true → x.satT P T) ∧ (b = false → y.satT P T)
  | .done v H => ∀ (ρ : Ren) (w : World) (R : Value → World → Prop) (v' : Value), T.T ρ w R → VR ρ v v' → Rep ρ H w → R v' w
  | .stop => False
  | .no => False
section
variable {P : Program} {ρ : Ren} {w : World} {H : Heap} {C : Ctx}
theorem MWpT.move {S S' : St} {T : Tgt} (hrest : S'.rest = S.rest) (hH : S'.H = S.H) (hfn : S'.top.fn = S.top.fn) (ht : S'.top.t = S.top.t)
    (h : MWpT P S' T) (hk : ∀ (TP : Exit → Act → World → Prop) (a : Act) (w : World), afterWp P S'.top.k TP .normal a w → afterWp P S.top.k TP .normal a w) : MWpT P S T := by
  intro ρ w g gs R hr hf hfs hR
  have := h ρ w { g with k := S'.top.k, dst := S'.top.dst } gs R (by rw [hH]; exact hr) ⟨by rw [hfn]; exact hf.fn, rfl, rfl, by rw [hfn, ht]; exact hf.t⟩ (by rw [hrest]; exact hfs) hR
  unfold stateWp at this ⊢
  rw [hf.k]
  exact hk _ _ _ this
theorem putFr_soundT {S : St} {T : Tgt} {k : List KI} {dst : Option Tmp} {v : Value} {H' : Heap} (hs : (putFr S k dst v H').satT P T)
    {ρ ρ' : Ren} {w w' : World} {g : AF} {gs : List AF} {R : Value → World → Prop} (hf : FR ρ S.top g) (hfs : FRL ρ S.rest gs) (hle : Ren.le ρ ρ') (hfr : Fresh ρ ρ' w) (hr' : Rep ρ' H' w') (hkp : Keep ρ w w')
    {v' : Value} (hv : VR ρ' v v')
    (hR : T.T ρ w R) :
    afterWp P k (topPost P g.fn gs R) .normal (g.a.put dst v') w' := by
  unfold putFr at hs
  cases hd : dstOk S.top.fn.ntmps dst with
  | false => rw [hd] at hs; exact hs.elim
  | true =>
    rw [hd] at hs
    have hs' : MWpT P { S with top := { S.top with t := putT S.top.t dst v, k := k }, H := H' } T := hs
    have := hs' ρ' w' { g with k := k, dst := S.top.dst, a := g.a.put dst v' } gs R hr' ⟨hf.fn, rfl, rfl, (hf.t.mono hle).put hd hv⟩ (FRL.mono hle hfs)
      (T.step hR hle hfr hkp)
    exact this
theorem conSR_soundT {S : St} {T : Tgt} {k : List KI} {dst : Option Tmp} {f : Nat} {args' : List Value}
    {ρ : Ren} {w : World} {g : AF} {gs : List AF} {R : Value → World → Prop} (hr : Rep ρ S.H w) (hf : FR ρ S.top g) (hfs : FRL ρ S.rest gs)
    (hR : T.T ρ w R) (alt : SR)
    (halt : alt.satT P T → Calls P f ⟨args'⟩ w (fun e w' => ∃ v', e = .returned v' ∧ afterWp P k (topPost P g.fn gs R) .normal (g.a.put dst v') w')) :
    ∀ (r : ER), ConGood P ρ f args' w r → (conSR S k dst alt r).satT P T →
      Calls P f ⟨args'⟩ w (fun e w' => ∃ v', e = .returned v' ∧ afterWp P k (topPost P g.fn gs R) .normal (g.a.put dst v') w')
  | .val v, hg, hs => by
    obtain ⟨v', hv, hc⟩ := hg
    refine hc.mono ?_
    rintro e w' ⟨rfl, hb⟩
    exact ⟨v', rfl, putFr_soundT hs hf hfs (Ren.le_refl _) (Fresh.refl _ _) (hr.below hb) (Below.toKeep hb) hv hR⟩
  | .tst b x y, hg, hs => by
    simp only [conSR, SR.satT] at hs
    cases b with
    | true => exact conSR_soundT hr hf hfs hR alt halt x (hg.1 rfl) (hs.1 rfl)
    | false => exact conSR_soundT hr hf hfs hR alt halt y (hg.2 rfl) (hs.2 rfl)
  | .mem v H, hg, hs => halt hs
  | .skip H, hg, hs => halt hs
  | .call f args, hg, hs => halt hs
  | .no, hg, hs => halt hs
theorem hconSR_soundT {S : St} {T : Tgt} {k : List KI} {dst : Option Tmp} {f : Nat} {args args' : List Value}
    {ρ : Ren} {w : World} {g : AF} {gs : List AF} {R : Value → World → Prop} (ha : VRL ρ args args') (hr : Rep ρ S.H w) (hf : FR ρ S.top g) (hfs : FRL ρ S.rest gs)
    (hR : T.T ρ w R) :
    ∀ (r : ER), HGood P f args S.H r → (hconSR S k dst r).satT P T →
      Calls P f ⟨args'⟩ w (fun e w' => ∃ v', e = .returned v' ∧ afterWp P k (topPost P g.fn gs R) .normal (g.a.put dst v') w')
  | .val v, hg, hs => by
    refine (hg ρ args' w ha hr).mono ?_
    rintro e w' ⟨ρ', u, u', H', rfl, ⟨rfl, rfl⟩, h1, h2, h3, h4, h5⟩
    exact ⟨u', rfl, putFr_soundT hs hf hfs h1 h2 h4 h5 h3 hR⟩
  | .mem v H, hg, hs => by
    refine (hg ρ args' w ha hr).mono ?_
    rintro e w' ⟨ρ', u, u', H', rfl, ⟨rfl, rfl⟩, h1, h2, h3, h4, h5⟩
    exact ⟨u', rfl, putFr_soundT hs hf hfs h1 h2 h4 h5 h3 hR⟩
  | .tst b x y, hg, hs => by
    simp only [hconSR, SR.satT] at hs
    cases b with
    | true => exact hconSR_soundT ha hr hf hfs hR x (hg.1 rfl) (hs.1 rfl)
    | false => exact hconSR_soundT ha hr hf hfs hR y (hg.2 rfl) (hs.2 rfl)
  | .skip H, hg, hs => hs.elim
  | .call f args, hg, hs => hs.elim
  | .no, hg, hs => hs.elim
theorem applyER_soundT (hC : C.Ok P) {S : St} {T : Tgt} {all : Array Oper} {l : List Oper} {k : List KI} {o : Oper}
    {ρ : Ren} {w : World} {g : AF} {gs : List AF} {R : Value → World → Prop} (hr : Rep ρ S.H w) (hf : FR ρ S.top g) (hfs : FRL ρ S.rest gs)
    (hR : T.T ρ w R) :
    ∀ (r : ER), Next.Good P ρ w ((execOp g.a.eval o).run P w) r → (applyER C S (.ops all l :: k) o.dst r).satT P T →
      o.wp P g.a w (wpList P all (afterWp P k (topPost P g.fn gs R)) l) (afterWp P k (topPost P g.fn gs R))
  | .val v, hg, hs => by
    obtain ⟨v', hv, hrun⟩ := hg
    unfold Oper.wp; rw [hrun]
    exact putFr_soundT hs hf hfs (Ren.le_refl _) (Fresh.refl _ _) hr (Keep.refl _ _) hv hR
  | .mem v H', hg, hs => by
    obtain ⟨ρ', v', w', h1, h2, h3, hrun, h5, h6⟩ := hg
    unfold Oper.wp; rw [hrun]
    exact putFr_soundT hs hf hfs h1 h2 h5 h6 h3 hR
  | .skip H', hg, hs => by
    obtain ⟨w', hrun, h5, h6⟩ := hg
    unfold Oper.wp; rw [hrun]
    exact putFr_soundT hs hf hfs (Ren.le_refl _) (Fresh.refl _ _) h5 h6 VR_undef hR
  | .call f args, hg, hs => by
    obtain ⟨args', ha, hrun⟩ := hg
    unfold Oper.wp; rw [hrun]
    simp only [applyER] at hs
    simp only [Oper.upon]
    cases ho : C.opq f with
    | true =>
      rw [ho] at hs; simp only [cond_true] at hs
      have hcon := hC.con f args ρ args' w S.H ha hr
      refine (conSR_soundT hr hf hfs hR _ (fun h => hconSR_soundT ha hr hf hfs hR _ (hC.hcon f S.H args) h) _ hcon hs).mono ?_
      rintro e w' ⟨v', rfl, h⟩
      exact h
    | false =>
      rw [ho] at hs; simp only [cond_false] at hs
      unfold enterFr at hs
      cases hfn : C.fn.get f with
      | none => rw [hfn] at hs; exact hs.elim
      | some fn =>
        rw [hfn] at hs; simp only at hs
        obtain ⟨hp, hbody, _⟩ := hC.fn f fn hfn
        cases hb : fn.body with
        | none => rw [hb] at hs; exact hs.elim
        | some c =>
          rw [hb] at hs; simp only at hs
          cases hcond : (Nat.ble args.length fn.ntmps && (Nat.blt fn.ntmps 1000000 && dstOk S.top.fn.ntmps o.dst)) with
          | false => rw [hcond] at hs; exact hs.elim
          | true =>
            rw [hcond] at hs; simp only [cond_true] at hs
            simp only [Bool.and_eq_true, Nat.blt_eq] at hcond
            have hl := Nat.le_of_ble_eq_true hcond.1
            have hs' : MWpT P { top := { fn := fn, t := trArgs args 0 .nil, k := [.code c], dst := none }, rest := { S.top with k := .ops all l :: k, dst := o.dst } :: S.rest, H := S.H, base := S.base } T := hs
            have hw := hs' ρ w { fn := fn, k := [.code c], dst := none, a := { tmps := (⟨args'⟩ : Array Value) ++ Array.replicate (fn.ntmps - (⟨args'⟩ : Array Value).size) undef, defers := [] } }
              ({ g with k := .ops all l :: k, dst := o.dst } :: gs) R hr ⟨rfl, rfl, rfl, enter_TR ha hl hcond.2.1⟩
              (by simp only [FRL]; exact ⟨{ g with k := .ops all l :: k, dst := o.dst }, gs, ⟨hf.fn, rfl, rfl, hf.t⟩, hfs, rfl⟩) hR
            have hcalls : Calls P f ⟨args'⟩ w (fun e w => ∃ v', e = .returned v' ∧ resumeWp P ({ g with k := .ops all l :: k, dst := o.dst } :: gs) R v' w) := by
              refine calls_of_wp hp hb ?_
              exact hw
            refine hcalls.mono ?_
            rintro e w' ⟨v', rfl, h⟩
            exact h
  | .tst b x y, hg, hs => by
    simp only [applyER, SR.satT] at hs
    cases b with
    | true => exact applyER_soundT hC hr hf hfs hR x (hg.1 rfl) (hs.1 rfl)
    | false => exact applyER_soundT hC hr hf hfs hR y (hg.2 rfl) (hs.2 rfl)
  | .no, hg, hs => hs.elim
theorem guard_soundT {S : St} {T : Tgt} {all : Array Oper} {o : Oper} {yes els : SR} {ρ : Ren} {g : AF} (hf : FR ρ S.top g)
    (hs : (guardSR all S.top.t S.top.fn.ntmps o yes els).satT P T) :
    (Region.wanted o (yielded all g.a.tmps) = true → yes.satT P T) ∧ (Region.wanted o (yielded all g.a.tmps) = false → els.satT P T) := by
  unfold guardSR at hs
  unfold Region.wanted
  cases hg : o.guard with
  | none => rw [hg] at hs; exact ⟨fun _ => hs, fun h => by cases h⟩
  | some jw =>
    obtain ⟨j, want⟩ := jw
    rw [hg] at hs; simp only at hs ⊢
    have hj : (all.toList[j]?).bind (·.dst) = (all[j]?).bind (·.dst) := by simp
    rw [hj] at hs
    cases hd : (all[j]?).bind (·.dst) with
    | none =>
      rw [hd] at hs
      have hy : yielded all g.a.tmps j = none := by unfold yielded; rw [hd]; rfl
      rw [hy]
      exact ⟨fun h => (by cases h), fun _ => hs⟩
    | some d =>
      rw [hd] at hs; simp only at hs
      cases hlt : Nat.blt d S.top.fn.ntmps with
      | false => rw [hlt] at hs; exact hs.elim
      | true =>
        rw [hlt] at hs; simp only [cond_true] at hs
        have hlt' : d < g.a.tmps.size := by rw [hf.t.size]; simpa [Nat.blt_eq] using hlt
        have hv := hf.t.val d
        have hget : g.a.tmps[d]? = some (g.a.tmps.getD d undef) := by simp [hlt']
        have hy : yielded all g.a.tmps j = match g.a.tmps.getD d undef with | .bool b => some b | _ => none := by
          unfold yielded; rw [hd]; simp only [Option.bind_some]; rw [hget]; cases g.a.tmps.getD d undef <;> rfl
        rw [hy]
        revert hs hv
        generalize (S.top.t.get d).getD undef = u
        intro hs hv
        cases u with
        | bool b =>
          simp only [VR] at hv
          rw [hv]
          have hs : (bif b == want then yes else els).satT P T := hs
          refine ⟨fun h => ?_, fun h => ?_⟩
          · have e : (b == want) = true := by simpa using h
            rw [e] at hs; exact hs
          · have e : (b == want) = false := by simpa using h
            rw [e] at hs; exact hs
        | tuple xs =>
          obtain ⟨xs⟩ := xs
          simp only [VR] at hv
          obtain ⟨xs', _, e⟩ := hv
          rw [e]
          exact ⟨fun h => (by cases h), fun _ => hs⟩
        | _ => exact hs.elim
theorem gdS_soundT {S : St} {T : Tgt} {o : Oper} {all : Array Oper} {kk : St → SR} (hk : ∀ t', (kk { S with top := { S.top with t := t' } }).satT P T → MWpT P { S with top := { S.top with t := t' } } T)
    (hs : (gdS (guardOf all S.top.fn.ntmps S.top.t o) S kk).satT P T) : MWpT P S T := by
  intro ρ w g gs R hr hf hfs hR
  have hn : S.top.fn.ntmps < big := hf.t.small
  have key : ∃ t', (∀ x, t'.get x = S.top.t.get x) ∧ (kk { S with top := { S.top with t := t' } }).satT P T := by
    cases hg : guardOf all S.top.fn.ntmps S.top.t o with
    | none => rw [hg] at hs; exact ⟨S.top.t, fun _ => rfl, hs⟩
    | some q =>
      obtain ⟨d, want, b⟩ := q
      rw [hg] at hs
      have hd : d < S.top.fn.ntmps ∧ S.top.t.get d = some (.bool b) := by
        unfold guardOf at hg
        split at hg
        · cases hg
        · split at hg
          · cases hg
          · split at hg
            · rename_i b' hb
              cases hc : Nat.blt _ S.top.fn.ntmps with
              | false => rw [hc] at hg; cases hg
              | true =>
                rw [hc] at hg
                simp only [cond_true, Option.some.injEq, Prod.mk.injEq] at hg
                obtain ⟨rfl, _, rfl⟩ := hg
                exact ⟨by simpa [Nat.blt_eq] using hc, hb⟩
            · cases hg
      have hb : d < big := Nat.lt_trans hd.1 hn
      have same : ∀ c, c = b → ∀ x, (S.top.t.set d (some (.bool c))).get x = S.top.t.get x := by
        intro c hc x
        subst hc
        rw [Tr.get_set _ _ _ hb]
        by_cases e : x = d
        · rw [if_pos e, e, hd.2]
        · rw [if_neg e]
      simp only [gdS, SR.satT] at hs
      cases hbw : (b == want) with
      | true => exact ⟨_, same want (by cases b <;> cases want <;> simp_all), hs.1 hbw⟩
      | false => exact ⟨_, same (!want) (by cases b <;> cases want <;> simp_all), hs.2 hbw⟩
  obtain ⟨t', ht', h⟩ := key
  exact hk t' h ρ w g gs R hr ⟨hf.fn, hf.k, hf.dst, ⟨hf.t.size, hf.t.small, fun i => by show VR ρ ((t'.get i).getD undef) _; rw [ht']; exact hf.t.val i, hf.t.defers⟩⟩ hfs hR
theorem stepOps_soundT (hC : C.Ok P) {S : St} {T : Tgt} {all : Array Oper} {l : List Oper} {k : List KI} (hk : S.top.k = .ops all l :: k) (hs : (stepOps C S all l k).satT P T) : MWpT P S T := by
  cases l with
  | nil =>
    refine MWpT.move (S' := { S with top := { S.top with k := k } }) rfl rfl rfl rfl hs ?_
    intro TP a w h; rw [hk]; exact h
  | cons o l =>
    simp only [stepOps] at hs
    refine gdS_soundT (fun t' hs => ?_) hs
    have hk' : ({ S with top := { S.top with t := t' } } : St).top.k = .ops all (o :: l) :: k := hk
    generalize ({ S with top := { S.top with t := t' } } : St) = S at hs hk'
    intro ρ w g gs R hr hf hfs hR
    unfold stateWp
    rw [hf.k, hk']
    show wpList P all _ (o :: l) g.a w
    have hg := guard_soundT hf hs
    unfold wpList
    cases hw : Region.wanted o (yielded all g.a.tmps) with
    | true =>
      rw [if_pos rfl]
      exact .inl (applyER_soundT hC hr hf hfs hR _ (evOp_good hC.toOk hr hf.t o) (hg.1 hw))
    | false =>
      rw [if_neg (by simp)]
      exact putFr_soundT (hg.2 hw) hf hfs (Ren.le_refl _) (Fresh.refl _ _) hr (Keep.refl _ _) VR_undef hR
theorem conQ_soundT {S : St} {T : Tgt} {k : List KI} {dst : Option Tmp} {f : Nat} {args : List Value} (hC : C.Ok P)
    {ρ : Ren} {w : World} {g : AF} {gs : List AF} {R : Value → World → Prop} (hr : Rep ρ S.H w) (hf : FR ρ S.top g) (hfs : FRL ρ S.rest gs)
    (hR : T.T ρ w R) :
    ∀ (r : ER), (∀ w', Below w.heap.size w w' → ∀ args', VRL ρ args args' → ConGood P ρ f args' w' r) → (conQR S k dst r).satT P T →
      ∃ v, (∀ w', Below w.heap.size w w' → ∀ args', VRL ρ args args' → Calls P f ⟨args'⟩ w' (fun e w'' => e = .returned v ∧ Below w'.heap.size w' w'')) ∧ ((∃ args', VRL ρ args args') → afterWp P k (topPost P g.fn gs R) .normal (g.a.put dst v) w)
  | .val v, hg, hs => by
    simp only [conQR] at hs
    cases hrig : rig v with
    | false => rw [hrig] at hs; exact hs.elim
    | true =>
      rw [hrig] at hs; simp only [cond_true] at hs
      by_cases hex : ∃ args', VRL ρ args args'
      · obtain ⟨a0, ha0⟩ := hex
        obtain ⟨v', hv, _⟩ := hg w (Below.refl _ _) a0 ha0
        refine ⟨v', fun w' hw' args' ha => ?_, fun _ => putFr_soundT hs hf hfs (Ren.le_refl _) (Fresh.refl _ _) hr (Keep.refl _ _) hv hR⟩
        obtain ⟨v'', hv2, hc⟩ := hg w' hw' args' ha
        rw [rig_one v hrig _ _ hv hv2]; exact hc
      · exact ⟨v, fun w' hw' args' ha => absurd ⟨args', ha⟩ hex, fun h => absurd h hex⟩
  | .tst b x y, hg, hs => by
    simp only [conQR, SR.satT] at hs
    cases b with
    | true => exact conQ_soundT hC hr hf hfs hR x (fun w' hw' a ha => (hg w' hw' a ha).1 rfl) (hs.1 rfl)
    | false => exact conQ_soundT hC hr hf hfs hR y (fun w' hw' a ha => (hg w' hw' a ha).2 rfl) (hs.2 rfl)
  | .mem v H, hg, hs => hs.elim
  | .skip H, hg, hs => hs.elim
  | .call f args, hg, hs => hs.elim
  | .no, hg, hs => hs.elim
theorem applyQ_soundT (hC : C.Ok P) {S : St} {T : Tgt} {all : Array Oper} {n : Nat} {l : List Oper} {k : List KI} {o : Oper}
    {ρ : Ren} {w : World} {g : AF} {gs : List AF} {R : Value → World → Prop} (hr : Rep ρ S.H w) (hf : FR ρ S.top g) (hfs : FRL ρ S.rest gs)
    (hR : T.T ρ w R) :
    ∀ (r : ER) (free : Bool), (free = true → UGood ρ (fun W => ∀ k : Nat, k < w.heap.size → W.heap[k]? = w.heap[k]?) (fun W => (execOp g.a.eval o).run P W) r) → (∀ w', Below w.heap.size w w' → Next.Good P ρ w' ((execOp g.a.eval o).run P w') r) → (applyQ C S (.opsQ all n l :: k) o.dst free r).satT P T →
      o.quiet P g.a (Below w.heap.size w) (wpQuiet P all (Below w.heap.size w) (fun a' => ∀ w', Below w.heap.size w w' → wpList P all (afterWp P k (topPost P g.fn gs R)) (all.toList.drop n) a' w') l)
  | .val v, free, hu, hg, hs => by
    simp only [applyQ] at hs
    cases hfr : free with
    | true =>
      rw [hfr] at hs; simp only [Bool.true_or, cond_true] at hs
      obtain ⟨v', hv, hrun⟩ := hu hfr
      refine ⟨v', fun w' hw' => ?_, putFr_soundT hs hf hfs (Ren.le_refl _) (Fresh.refl _ _) hr (Keep.refl _ _) hv hR⟩
      unfold Oper.quietAt
      have h1 : (execOp g.a.eval o).run P w' = .ok (.value v') w' := hrun w' (fun k hk => hw'.block k hk)
      rw [h1]
      exact ⟨rfl, rfl⟩
    | false =>
    rw [hfr] at hs; simp only [Bool.false_or] at hs
    cases hrig : rig v with
    | false => rw [hrig] at hs; exact hs.elim
    | true =>
      rw [hrig] at hs; simp only [cond_true] at hs
      obtain ⟨v', hv, hrun⟩ := hg w (Below.refl _ _)
      refine ⟨v', fun w' hw' => ?_, putFr_soundT hs hf hfs (Ren.le_refl _) (Fresh.refl _ _) hr (Keep.refl _ _) hv hR⟩
      obtain ⟨v'', hv2, hrun2⟩ := hg w' hw'
      unfold Oper.quietAt
      rw [hrun2]
      exact ⟨rfl, (rig_one v hrig _ _ hv2 hv)⟩
  | .call f args, free, hu, hg, hs => by
    simp only [applyQ] at hs
    cases ho : C.opq f with
    | false => rw [ho] at hs; exact hs.elim
    | true =>
      rw [ho] at hs; simp only [cond_true] at hs
      obtain ⟨v, h1, h2⟩ := conQ_soundT hC hr hf hfs hR _ (fun w' hw' args' ha => hC.con f args ρ args' w' S.H ha (hr.below hw')) hs
      obtain ⟨a0, ha0, _⟩ := hg w (Below.refl _ _)
      refine ⟨v, fun w' hw' => ?_, h2 ⟨a0, ha0⟩⟩
      obtain ⟨args', ha, hrun⟩ := hg w' hw'
      unfold Oper.quietAt
      rw [hrun]
      refine ⟨rfl, (h1 w' hw' args' ha).mono ?_⟩
      rintro e w'' ⟨rfl, hb⟩
      exact ⟨rfl, hw'.trans (hb.mono hw'.size)⟩
  | .tst b x y, free, hu, hg, hs => by
    simp only [applyQ, SR.satT] at hs
    cases b with
    | true => exact applyQ_soundT hC hr hf hfs hR x free (fun e => (hu e).1 rfl) (fun w' hw' => (hg w' hw').1 rfl) (hs.1 rfl)
    | false => exact applyQ_soundT hC hr hf hfs hR y free (fun e => (hu e).2 rfl) (fun w' hw' => (hg w' hw').2 rfl) (hs.2 rfl)
  | .mem v H', free, hu, hg, hs => hs.elim
  | .skip H', free, hu, hg, hs => hs.elim
  | .no, free, hu, hg, hs => hs.elim
theorem stepOpsQ_soundT (hC : C.Ok P) {S : St} {T : Tgt} {all : Array Oper} {n : Nat} {l : List Oper} {k : List KI} (hk : S.top.k = .opsQ all n l :: k) (hs : (stepOpsQ C S all n l k).satT P T) : MWpT P S T := by
  cases l with
  | nil =>
    intro ρ w g gs R hr hf hfs hR
    unfold stateWp
    rw [hf.k, hk]
    show ∀ w', Below w.heap.size w w' → _
    intro w' hw'
    have hs' : MWpT P { S with top := { S.top with k := .ops all (all.toList.drop n) :: k } } T := hs
    exact hs' ρ w' { g with k := .ops all (all.toList.drop n) :: k } gs R (hr.below hw') ⟨hf.fn, rfl, hf.dst, hf.t⟩ hfs
      (T.step hR (Ren.le_refl _) (Fresh.refl _ _) (Below.toKeep hw'))
  | cons o l =>
    simp only [stepOpsQ] at hs
    refine gdS_soundT (fun t' hs => ?_) hs
    have hk' : ({ S with top := { S.top with t := t' } } : St).top.k = .opsQ all n (o :: l) :: k := hk
    generalize ({ S with top := { S.top with t := t' } } : St) = S at hs hk'
    intro ρ w g gs R hr hf hfs hR
    unfold stateWp
    rw [hf.k, hk']
    have hg := guard_soundT hf hs
    show wpQuiet P all _ _ (o :: l) g.a
    unfold wpQuiet
    cases hw : Region.wanted o (yielded all g.a.tmps) with
    | true =>
      rw [if_pos rfl]
      exact applyQ_soundT hC hr hf hfs hR _ _ (fun e => evOp_free hC.toOk hr hf.t o e) (fun w' hw' => evOp_good hC.toOk (hr.below hw') hf.t o) (hg.1 hw)
    | false =>
      rw [if_neg (by simp)]
      exact putFr_soundT (hg.2 hw) hf hfs (Ren.le_refl _) (Fresh.refl _ _) hr (Keep.refl _ _) VR_undef hR
theorem gxSR_satT {S : St} {T : Tgt} {ops : Array Oper} {k : List KI} {alt : SR} : ∀ (x : GX), (gxSR S ops k alt x).satT P T → alt.satT P T ∨ x.sat ops (fun t H => MWpT P { S with top := { S.top with t := t, k := k }, H := H } T)
  | .fin t H rs, hs => by
    simp only [gxSR] at hs
    cases hc : checkX ops rs with
    | false => rw [hc] at hs; exact .inl hs
    | true =>
      rw [hc] at hs; simp only [cond_true, forceTr_eq forceO_eq, forceTr_eq forceLO_eq, forceN_eq] at hs
      exact .inr ⟨hc, hs⟩
  | .tst b x y, hs => by
    cases b with
    | true => exact (gxSR_satT x (hs.1 rfl)).imp id (fun h => ⟨(fun _ => h), (fun h => (by cases h))⟩)
    | false => exact (gxSR_satT y (hs.2 rfl)).imp id (fun h => ⟨(fun h => (by cases h)), (fun _ => h)⟩)
  | .no, hs => .inl hs
theorem enterX_soundT (hC : C.Ok P) {S : St} {T : Tgt} {id : Nat} {ops : Array Oper} {k : List KI} {alt : SR} (hk : S.top.k = .code (.region id ops true) :: k) (halt : alt.satT P T → MWpT P S T) (hs : (enterX C S ops k alt).satT P T) : MWpT P S T := by
  intro ρ w g gs R hr hf hfs hR
  unfold stateWp
  rw [hf.k, hk]
  show (Code.region id ops true).wp P _ g.a w
  unfold enterX at hs
  cases hl0 : Nat.beq S.H.lock 0 with
  | false =>
    rw [hl0] at hs
    have := halt hs ρ w g gs R hr hf hfs hR
    unfold stateWp at this; rw [hf.k, hk] at this; exact this
  | true =>
  rw [hl0] at hs; simp only [cond_true] at hs
  rcases gxSR_satT _ hs with hs | hs
  · have := halt hs ρ w g gs R hr hf hfs hR
    unfold stateWp at this; rw [hf.k, hk] at this; exact this
  refine region_any hC (Nat.eq_of_beq_eq_true hl0) hs hr hf.t (fun t' H' ρ' a' w' hm hle hfr hkp hr' ht' => ?_)
  have := hm ρ' w' { g with k := k, a := a' } gs R hr' ⟨hf.fn, rfl, hf.dst, ht'⟩ (FRL.mono hle hfs)
    (T.step hR hle hfr hkp)
  exact this
theorem enterL_soundT (hC : C.Ok P) {S : St} {T : Tgt} {id : Nat} {ops : Array Oper} {k : List KI} (hk : S.top.k = .code (.region id ops true) :: k) (hs : (enterL C S ops k).satT P T) : MWpT P S T := by
  intro ρ w g gs R hr hf hfs hR
  unfold enterL at hs
  unfold stateWp
  rw [hf.k, hk]
  show (Code.region id ops true).wp P _ g.a w
  have hR' : T.T ρ w.drew R := T.step hR (Ren.le_refl _) (Fresh.refl _ _) (Keep.drew _ _)
  cases hn : Nat.beq (quietN C ops.toList) ops.size with
  | true =>
    rw [hn] at hs; simp only [cond_true] at hs
    cases hB : Region.lexB .any ops with
    | false => rw [hB] at hs; exact hs.elim
    | true =>
      rw [hB] at hs; simp only [cond_true] at hs
      have hs' : MWpT P { S with top := { S.top with k := .opsQ ops ops.size ops.toList :: k } } T := hs
      have := hs' ρ w.drew { g with k := .opsQ ops ops.size ops.toList :: k } gs R hr.drew ⟨hf.fn, rfl, hf.dst, hf.t⟩ hfs hR'
      refine wp_region_quiet (C := Below w.drew.heap.size w.drew) hC.fol hB (Below.refl _ _) ?_
      have h2 : wpQuiet P ops (Below w.drew.heap.size w.drew) (fun a' => ∀ w', Below w.drew.heap.size w.drew w' → wpList P ops (afterWp P k (topPost P g.fn gs R)) (ops.toList.drop ops.size) a' w') ops.toList g.a := this
      have e : ops.toList.drop ops.size = [] := by simp
      rw [e] at h2
      exact h2
  | false =>
    rw [hn] at hs; simp only [cond_false] at hs
    cases hB : Region.lexTailB .any ops (quietN C ops.toList) with
    | false => rw [hB] at hs; exact hs.elim
    | true =>
      rw [hB] at hs; simp only [cond_true] at hs
      have hs' : MWpT P { S with top := { S.top with k := .opsQ ops (quietN C ops.toList) (ops.toList.take (quietN C ops.toList)) :: k } } T := hs
      have := hs' ρ w.drew { g with k := .opsQ ops (quietN C ops.toList) (ops.toList.take (quietN C ops.toList)) :: k } gs R hr.drew ⟨hf.fn, rfl, hf.dst, hf.t⟩ hfs hR'
      exact region_quiet_tail (CW := Below w.drew.heap.size w.drew) _ hC.fol hB (Below.refl _ _) this
theorem enterQ_soundT (hC : C.Ok P) {S : St} {T : Tgt} {id : Nat} {ops : Array Oper} {k : List KI} (hk : S.top.k = .code (.region id ops true) :: k) (hs : (enterQ C S ops k).satT P T) : MWpT P S T := by
  unfold enterQ at hs
  cases hl : C.lex with
  | true => rw [hl] at hs; exact enterL_soundT hC hk hs
  | false => rw [hl] at hs; exact enterX_soundT hC hk (enterL_soundT hC hk) hs
theorem stepRet_soundT (hC : C.Ok P) {S : St} {T : Tgt} (hs : (stepRet C S).satT P T) {ρ : Ren} {w : World} {g : AF} {gs : List AF} {R : Value → World → Prop}
    (hr : Rep ρ S.H w) (hf : FR ρ S.top g) (hfs : FRL ρ S.rest gs)
    (hR : T.T ρ w R) :
    topPost P g.fn gs R .ret g.a w ∧ topPost P g.fn gs R .normal g.a w := by
  unfold stepRet at hs
  cases hl : evRes C.toEnv S.H S.top.t S.top.fn.results.toList with
  | none => rw [hl] at hs; exact hs.elim
  | some l =>
    rw [hl] at hs; simp only at hs
    obtain ⟨l', h1, h2⟩ := run_res hC.toOk hr hf.t _ l hl
    have hres : (results g.fn g.a.tmps).run P w = .ok (if h : (⟨l'⟩ : Array Value).size = 1 then (⟨l'⟩ : Array Value)[0] else .tuple ⟨l'⟩) w := by
      unfold results
      rw [hf.fn]
      simp only [Sem.run_bind]
      rw [Array.mapM_eq_mapM_toList]
      have hb : ∀ (x : Sem (List Value)), x.run P w = .ok l' w → (List.toArray <$> x).run P w = .ok ⟨l'⟩ w := by
        intro x hx
        show (x >>= (Sem.pure ∘ List.toArray)).run P w = _
        rw [Sem.run_bind, hx]; rfl
      exact congrArg (fun r : Result (Array Value) => r.andThen fun vs w' => Sem.run P (pure (if h : vs.size = 1 then vs[0] else Value.tuple vs) : Sem Value) w') (hb _ h2)
    have hv := one_or_all h1
    have hfin : resumeWp P gs R (if h : (⟨l'⟩ : Array Value).size = 1 then (⟨l'⟩ : Array Value)[0] else .tuple ⟨l'⟩) w := by
      cases hrest : S.rest with
      | nil =>
        rw [hrest] at hs hfs
        simp only [FRL] at hfs; subst hfs
        exact hs ρ w R _ hR hv hr
      | cons f r =>
        rw [hrest] at hs hfs
        simp only [FRL] at hfs
        obtain ⟨g2, r2, hg2, hr2, rfl⟩ := hfs
        simp only at hs
        cases hd : dstOk f.fn.ntmps f.dst with
        | false => rw [hd] at hs; exact hs.elim
        | true =>
          rw [hd] at hs
          have hs' : MWpT P { top := { f with t := putT f.t f.dst (oneOrAll l) }, rest := r, H := S.H, base := S.base } T := hs
          have := hs' ρ w { g2 with a := g2.a.put g2.dst (if h : (⟨l'⟩ : Array Value).size = 1 then (⟨l'⟩ : Array Value)[0] else .tuple ⟨l'⟩) } r2 R hr
            ⟨hg2.fn, hg2.k, hg2.dst, by rw [hg2.dst]; exact hg2.t.put hd hv⟩ hr2 hR
          exact this
    exact ⟨⟨hf.t.defers, _, hres, _, rfl, hfin⟩, ⟨hf.t.defers, _, hres, _, rfl, hfin⟩⟩
theorem step_soundT (hC : C.Ok P) {S : St} {T : Tgt} (hs : (step C S).satT P T) : MWpT P S T := by
  unfold step at hs
  split at hs
  · rename_i hk
    intro ρ w g gs R hr hf hfs hR
    unfold stateWp
    rw [hf.k, hk]
    exact (stepRet_soundT hC hs hr hf hfs hR).2
  · rename_i c k hk
    unfold stepCode at hs
    split at hs
    · refine MWpT.move (S' := { S with top := { S.top with k := k } }) rfl rfl rfl rfl hs ?_
      intro TP a w h; rw [hk]; exact wp_skip h
    · refine MWpT.move (S' := { S with top := { S.top with k := k } }) rfl rfl rfl rfl hs ?_
      intro TP a w h; rw [hk]; exact wp_label h
    · rename_i x y
      refine MWpT.move (S' := { S with top := { S.top with k := .code x :: .code y :: k } }) rfl rfl rfl rfl hs ?_
      intro TP a w h; rw [hk]
      exact wp_seq (wp_mono h (then_after (fun _ e => by cases e) (fun _ e => by cases e) _ (fun _ _ h => h)))
    · rename_i x a b
      split at hs
      · rename_i q hx
        simp only [SR.satT] at hs
        intro ρ w g gs R hr hf hfs hR
        unfold stateWp
        rw [hf.k, hk]
        have hv := evx_VR hf.t hx
        simp only [VR] at hv
        show (Code.cond x a b).wp P _ g.a w
        refine wp_cond_split hv (fun e => ?_) (fun e => ?_)
        · have h1 : MWpT P { S with top := { S.top with k := .code a :: k } } T := hs.1 e
          exact h1 ρ w { g with k := .code a :: k } gs R hr ⟨hf.fn, rfl, hf.dst, hf.t⟩ hfs hR
        · have h1 : MWpT P { S with top := { S.top with k := .code b :: k } } T := hs.2 e
          exact h1 ρ w { g with k := .code b :: k } gs R hr ⟨hf.fn, rfl, hf.dst, hf.t⟩ hfs hR
      · exact hs.elim
    · rename_i id a
      refine MWpT.move (S' := { S with top := { S.top with k := .code a :: .inBlock id :: k } }) rfl rfl rfl rfl hs ?_
      intro TP a w h; rw [hk]
      exact wp_block (wp_mono h block_after)
    · rename_i a
      refine MWpT.move (S' := { S with top := { S.top with k := .code a :: .inLoop a :: k } }) rfl rfl rfl rfl hs ?_
      intro TP a w h; rw [hk]
      exact loop_of (wp_mono h (then_after (fun _ e => by cases e) (fun _ e => by cases e) _ (fun _ _ h => h)))
    · rename_i id
      split at hs
      · rename_i k' hx
        refine MWpT.move (S' := { S with top := { S.top with k := k' } }) rfl rfl rfl rfl hs ?_
        intro TP a w h; rw [hk]
        exact wp_exit (afterWp_exit k hx h)
      · exact hs.elim
    · intro ρ w g gs R hr hf hfs hR
      unfold stateWp
      rw [hf.k, hk]
      exact wp_ret (afterWp_ret k (stepRet_soundT hC hs hr hf hfs hR).1)
    · rename_i a
      refine MWpT.move (S' := { S with top := { S.top with k := .code a :: .inScope a :: k } }) rfl rfl rfl rfl hs ?_
      intro TP a w h; rw [hk]
      exact scope_of h
    · rename_i l
      split at hs
      · rename_i k' hx
        refine MWpT.move (S' := { S with top := { S.top with k := k' } }) rfl rfl rfl rfl hs ?_
        intro TP a w h; rw [hk]
        exact wp_goto (afterWp_goto k hx h)
      · exact hs.elim
    · rename_i id ops
      refine MWpT.move (S' := { S with top := { S.top with k := .ops ops ops.toList :: k } }) rfl rfl rfl rfl hs ?_
      intro TP a w h; rw [hk]
      exact wp_region_list h
    · exact enterQ_soundT hC hk hs
    · exact hs.elim
  · rename_i id k hk
    refine MWpT.move (S' := { S with top := { S.top with k := k } }) rfl rfl rfl rfl hs ?_
    intro TP a w h; rw [hk]; exact h
  · rename_i id k hk
    refine MWpT.move (S' := { S with top := { S.top with k := k } }) rfl rfl rfl rfl hs ?_
    intro TP a w h; rw [hk]; exact h
  · rename_i c k hk
    refine MWpT.move (S' := { S with top := { S.top with k := .code c :: .inLoop c :: k } }) rfl rfl rfl rfl hs ?_
    intro TP a w h; rw [hk]
    exact loopWp_of (wp_mono h (then_after (fun _ e => by cases e) (fun _ e => by cases e) _ (fun _ _ h => h)))
  · rename_i all l k hk
    exact stepOps_soundT hC hk hs
  · rename_i all n l k hk
    exact stepOpsQ_soundT hC hk hs
end
def Leaf.satT (P : Program) (T : Tgt) : Leaf → Prop
  | .done v H => ∀ (ρ : Ren) (w : World) (R : Value → World → Prop) (v' : Value), T.T ρ w R → VR ρ v v' → Rep ρ H w → R v' w
  | .halt S => MWpT P S T
section
variable {P : Program} {C : Ctx} {T : Tgt}
theorem runSR_soundT {rec : Path → St → RO} {S : St} (hrec : ∀ p S' t l, rec p S' = .ok t l → trusted t → l.satT P T → MWpT P S' T) :
    ∀ (x : SR) (p : Path) (t : List (Bool × Bool)) (l : Leaf), runSR rec S p x = .ok t l → trusted t → l.satT P T → (l = .halt S ∧ True) ∨ x.satT P T
  | .go S', p, t, l, h, ht, hl => by
    simp only [runSR] at h
    exact .inr (hrec p S' t l h ht hl)
  | .done v H, p, t, l, h, ht, hl => by
    simp only [runSR, RO.ok.injEq] at h
    obtain ⟨_, rfl⟩ := h
    exact .inr hl
  | .stop, p, t, l, h, ht, hl => by
    simp only [runSR, RO.ok.injEq] at h
    obtain ⟨_, rfl⟩ := h
    exact .inl ⟨rfl, trivial⟩
  | .no, p, t, l, h, ht, hl => by simp [runSR] at h
  | .tst b x y, [], t, l, h, ht, hl => by
    simp only [runSR] at h
    cases b with
    | true =>
      rcases runSR_soundT hrec x [] t l h ht hl with h1 | h1
      · exact .inl h1
      · exact .inr ⟨fun _ => h1, fun e => by cases e⟩
    | false =>
      rcases runSR_soundT hrec y [] t l h ht hl with h1 | h1
      · exact .inl h1
      · exact .inr ⟨fun e => (by cases e), fun _ => h1⟩
  | .tst b x y, (k + 1, d) :: p, t, l, h, ht, hl => by
    simp only [runSR] at h
    cases b with
    | true =>
      rcases runSR_soundT hrec x _ t l h ht hl with h1 | h1
      · exact .inl h1
      · exact .inr ⟨fun _ => h1, fun e => by cases e⟩
    | false =>
      rcases runSR_soundT hrec y _ t l h ht hl with h1 | h1
      · exact .inl h1
      · exact .inr ⟨fun e => (by cases e), fun _ => h1⟩
  | .tst b x y, (0, d) :: p, t, l, h, ht, hl => by
    simp only [runSR] at h
    cases d with
    | true =>
      simp only [cond_true] at h
      cases hx : runSR rec S p x with
      | no => rw [hx] at h; simp [RO.add] at h
      | ok t' l' =>
        rw [hx] at h; simp only [RO.add, RO.ok.injEq] at h
        obtain ⟨rfl, rfl⟩ := h
        rcases runSR_soundT hrec x p t' l' hx ht.2 hl with h1 | h1
        · exact .inl h1
        · refine .inr ⟨fun _ => h1, fun e => ?_⟩
          have := ht.1; rw [e] at this; cases this
    | false =>
      simp only [cond_false] at h
      cases hx : runSR rec S p y with
      | no => rw [hx] at h; simp [RO.add] at h
      | ok t' l' =>
        rw [hx] at h; simp only [RO.add, RO.ok.injEq] at h
        obtain ⟨rfl, rfl⟩ := h
        rcases runSR_soundT hrec y p t' l' hx ht.2 hl with h1 | h1
        · exact .inl h1
        · refine .inr ⟨fun e => ?_, fun _ => h1⟩
          have := ht.1; rw [e] at this; cases this
theorem run_soundT (hC : C.Ok P) : ∀ (n : Nat) (p : Path) (S : St) (t : List (Bool × Bool)) (l : Leaf), run C n p S = .ok t l → trusted t → l.satT P T → MWpT P S T
  | 0, p, S, t, l, h, _, hl => by simp only [run, RO.ok.injEq] at h; obtain ⟨_, rfl⟩ := h; exact hl
  | n + 1, p, S, t, l, h, ht, hl => by
    simp only [run] at h
    rcases runSR_soundT (P := P) (T := T) (fun p S' t l => run_soundT hC n p S' t l) _ p t l h ht hl with ⟨rfl, _⟩ | h1
    · exact hl
    · exact step_soundT hC h1
end
end Go.Ly
namespace Go.Ly
open Go.RowKit
def OWo : Option LO → Option LO → Prop
  | _, none => True
  | some a, some b => OW a b
  | none, some _ => False
theorem OWo.cells {c c' : List Value} {t : TypeId} (h : VWL c c') : OWo (some (.cells c t)) (some (.cells c' t)) := OW.cells h
theorem VWL.nil : VWL [] [] := rfl
theorem weak_vH {H : Heap} {bs : List Nat} {os os' : List (Option LO)} {nx : Nat} (hn : H.next = nx) (hl : H.lock = 0) (hg : bs.map H.get = os) (hw : Each2 OWo os os') (hb : (nodupB bs && bs.all (fun b => Nat.blt b 2147483000)) = true) : WeakH H (vH bs os' nx) := by
  rw [Bool.and_eq_true] at hb
  have hnd := nodupB_iff bs hb.1
  have hbb : ∀ b ∈ bs, b < big := fun b h => by have := List.all_eq_true.1 hb.2 b h; simpa [Nat.blt_eq, big] using this
  have hlen : bs.length = os'.length := by rw [← hw.length, ← hg]; simp
  obtain ⟨g1, g2⟩ := setZip_get bs os' .nil hlen hbb hnd
  refine ⟨hn.symm, hl.symm, fun i o ho => ?_⟩
  have ho : (setAll (bs.zip os') .nil).get i = some o := ho
  by_cases hi : i ∈ bs
  · obtain ⟨j, hj, e⟩ := List.getElem_of_mem hi
    have e1 := g1 j i _ (by rw [List.getElem?_eq_getElem hj, e]) (List.getElem?_eq_getElem (show j < os'.length by omega))
    rw [e1] at ho
    have h2 := hw.get j (H.get i) (os'[j]'(by omega)) (by rw [← hg, List.getElem?_map, List.getElem?_eq_getElem hj, e]; rfl) (List.getElem?_eq_getElem (by omega))
    rw [ho] at h2
    cases hH : H.get i with
    | none => rw [hH] at h2; exact h2.elim
    | some x => rw [hH] at h2; exact ⟨x, rfl, h2⟩
  · rw [g2 i hi, Tr.get_nil] at ho; cases ho
theorem MWp.keepB {P : Program} {Q : Value → Heap → Prop} {fn : Func} {k : List KI} {dst : Option Tmp} {base : Nat} {vals vals' : List Value} {H : Heap} {bs : List Nat} {os os' os'' : List (Option LO)} {nx : Nat} (kp : List Nat)
    (hn : H.next = nx) (hl : H.lock = 0) (hg : bs.map H.get = os) (hw : Each2 OWo os os') (hb : (nodupB bs && bs.all (fun b => Nat.blt b 2147483000)) = true)
    (hc : formOf kp bs (atSt fn k dst base vals (vH bs os' nx)) = (true, (fn, k, dst, base), vals', os''))
    (hP : ∀ o ∈ os'', ∀ x, o = some x → plainO x) (h : MWp P (mkSt fn k dst base vals' os'') Q) : MWp P (atSt fn k dst base vals H) Q := by
  refine MWp.weak (S := atSt fn k dst base vals H) (weak_vH hn hl hg hw hb) ?_
  show MWp P (atSt fn k dst base vals (vH bs os' nx)) Q
  simp only [formOf, Prod.mk.injEq] at hc
  obtain ⟨h1, ⟨h2, h3, h4, h5⟩, h6, h7⟩ := hc
  refine MWp.collect kp bs h1 (by rw [h7]; exact hP) ?_
  unfold Go.Ly.collect
  rw [h6, h7]; exact h
end Go.Ly
namespace Go.Ly
open Go.RowKit
end Go.Ly
namespace Go.Ly
open Go.RowKit
section
variable {P : Program} {C : Ctx} {T : Tgt}
theorem MWpT.seg (hC : C.Ok P) {S d : St} {t : List (Bool × Bool)} (n : Nat) (p : Path) (h : (run C n p S).isHalt = true) (ht : (run C n p S).trust = t) (htr : trusted t) (hs : MWpT P ((run C n p S).st d) T) : MWpT P S T := by
  cases hr : run C n p S with
  | no => rw [hr] at h; simp [RO.isHalt] at h
  | ok t' l =>
    rw [hr] at h ht hs
    cases l with
    | done v H => simp [RO.isHalt] at h
    | halt S' =>
      simp only [RO.trust] at ht; subst ht
      exact run_soundT hC n p S _ _ hr htr hs
def aimAt (ρ0 : Ren) (w0 : World) (R0 : Value → World → Prop) : Tgt where
  T := fun ρ w R => R = R0 ∧ Ren.le ρ0 ρ ∧ Fresh ρ0 ρ w0 ∧ Keep ρ0 w0 w
  step := fun ⟨h0, h1, h2, h3⟩ l f k => ⟨h0, Ren.le_trans h1 l, Fresh.trans h3.size h2 f, Keep.trans h2 h3 k⟩
end
mutual
theorem ren_fwd {L : List Nat} : ∀ (v : Value), blks (memB L) v = true → renV (sg L) (renV (posOf L) v) = v
  | .bool _, _ => rfl
  | .int _ _, _ => rfl
  | .string _, _ => rfl
  | .pointer none, _ => rfl
  | .pointer (some a), h => by
    simp only [blks] at h
    have := posOf_get L _ h
    simp only [renV, sg, List.getD_eq_getElem?_getD, this, Option.getD_some]
  | .slice none _ _, _ => rfl
  | .slice (some a) n c, h => by
    simp only [blks] at h
    have := posOf_get L _ h
    simp only [renV, sg, List.getD_eq_getElem?_getD, this, Option.getD_some]
  | .map none, _ => rfl
  | .map (some r), h => by
    simp only [blks] at h
    have := posOf_get L _ h
    simp only [renV, sg, List.getD_eq_getElem?_getD, this, Option.getD_some]
  | .func fn ⟨xs⟩ ⟨ys⟩, h => by
    simp only [blks, Bool.and_eq_true] at h
    simp only [renV, renL_fwd xs h.1, renL_fwd ys h.2]
  | .nilFunc, _ => rfl
  | .iface t x, h => by
    simp only [blks] at h
    simp only [renV, ren_fwd x h]
  | .nilIface, _ => rfl
  | .agg ⟨xs⟩, h => by
    simp only [blks] at h
    simp only [renV, renL_fwd xs h]
  | .tuple ⟨xs⟩, h => by
    simp only [blks] at h
    simp only [renV, renL_fwd xs h]
  | .chan _, _ => rfl
  | .float _ r, h => by
    simp only [blks] at h
    have := posOf_get L _ h
    simp only [renV, sg, List.getD_eq_getElem?_getD, this, Option.getD_some]
  | .complex _ _ _, _ => rfl
theorem renL_fwd {L : List Nat} : ∀ (l : List Value), blksL (memB L) l = true → renL (sg L) (renL (posOf L) l) = l
  | [], _ => rfl
  | v :: r, h => by
    simp only [blksL, Bool.and_eq_true] at h
    simp only [renL, ren_fwd v h.1, renL_fwd r h.2]
end
theorem renO_fwd {L : List Nat} : ∀ (o : LO), colOB L o = true → renO (sg L) (colO L o) = o
  | .cells c t, h => by simp only [colO, renO, renL_fwd c h]
  | .row c t z, h => by simp only [colO, renO, renL_fwd c h]
  | .fn _ _ _ _, _ => rfl
  | .arg _ _ _, _ => rfl
mutual
theorem ren_ren (σ τ : Nat → Nat) : ∀ (v : Value), renV τ (renV σ v) = renV (fun i => τ (σ i)) v
  | .bool _ => rfl
  | .int _ _ => rfl
  | .string _ => rfl
  | .pointer none => rfl
  | .pointer (some a) => rfl
  | .slice none _ _ => rfl
  | .slice (some a) n c => rfl
  | .map none => rfl
  | .map (some r) => rfl
  | .func fn ⟨xs⟩ ⟨ys⟩ => by simp only [renV, renL_renL σ τ xs, renL_renL σ τ ys]
  | .nilFunc => rfl
  | .iface t x => by simp only [renV, ren_ren σ τ x]
  | .nilIface => rfl
  | .agg ⟨xs⟩ => by simp only [renV, renL_renL σ τ xs]
  | .tuple ⟨xs⟩ => by simp only [renV, renL_renL σ τ xs]
  | .chan _ => rfl
  | .float _ _ => rfl
  | .complex _ _ _ => rfl
theorem renL_renL (σ τ : Nat → Nat) : ∀ (l : List Value), renL τ (renL σ l) = renL (fun i => τ (σ i)) l
  | [] => rfl
  | v :: r => by simp only [renL, ren_ren σ τ v, renL_renL σ τ r]
end
theorem renO_renO (σ τ : Nat → Nat) : ∀ (o : LO), renO τ (renO σ o) = renO (fun i => τ (σ i)) o
  | .cells c t => by simp only [renO, renL_renL]
  | .row c t z => by simp only [renO, renL_renL]
  | .fn _ _ _ _ => rfl
  | .arg _ _ _ => rfl
mutual
theorem noTok_ren (σ : Nat → Nat) : ∀ (v : Value), noTok (renV σ v) = noTok v
  | .bool _ => rfl
  | .int _ _ => rfl
  | .string _ => rfl
  | .pointer none => rfl
  | .pointer (some a) => rfl
  | .slice none _ _ => rfl
  | .slice (some a) n c => rfl
  | .map none => rfl
  | .map (some r) => rfl
  | .func fn ⟨xs⟩ ⟨ys⟩ => by simp only [renV, noTok, noTokL_ren σ xs, noTokL_ren σ ys]
  | .nilFunc => rfl
  | .iface t x => by simp only [renV, noTok, noTok_ren σ x]
  | .nilIface => rfl
  | .agg ⟨xs⟩ => by simp only [renV, noTok, noTokL_ren σ xs]
  | .tuple ⟨xs⟩ => by simp only [renV, noTok, noTokL_ren σ xs]
  | .chan _ => rfl
  | .float _ _ => rfl
  | .complex _ _ _ => rfl
theorem noTokL_ren (σ : Nat → Nat) : ∀ (l : List Value), noTokL (renL σ l) = noTokL l
  | [] => rfl
  | v :: r => by simp only [renL, noTokL, noTok_ren σ v, noTokL_ren σ r]
end
theorem noTokO_col (L : List Nat) : ∀ (o : LO), noTokO (colO L o) = noTokO o
  | .cells c t => by simp only [colO, noTokO, noTokL_ren]
  | .row c t z => by simp only [colO, noTokO, noTokL_ren]
  | .fn _ _ _ _ => rfl
  | .arg _ _ _ => rfl
theorem Rep.tell {ρ : Ren} {H : Heap} {w : World} {τ : Nat → Value} (hn : ∀ i o, H.get i = some o → noTokO o = true) (hr : Rep ρ H w) : Rep (ρ.say τ) H w :=
  ⟨hr.small, hr.dom, hr.inj, hr.ltn, fun i o ho hown => by
    obtain ⟨h1, b, o', h2, h3, h4⟩ := hr.obj i o ho hown
    exact ⟨h1, b, o', h2, h3, OR_say o o' (hn i o ho) h4⟩, fun i k g n ho => ⟨(hr.arg i k g n ho).1, AR_say (hr.arg i k g n ho).2⟩, ⟨hr.fix.held, hr.fix.ro⟩⟩
def Ctx.rows (C : Ctx) : Ctx := { C with fr := true }
theorem Ctx.Ok.rows {P : Program} {C : Ctx} (h : C.Ok P) : C.rows.Ok P := { ty := h.ty, fn := h.fn, fol := h.fol, con := h.con, hcon := h.hcon }
def SlotI (σ : Nat → Nat) (i : Nat) (v u : Value) : Prop := v = anyV ∨ v = tokV i ∨ (noTok v = true ∧ u = renV σ v)
def SlotO (old : List Value) (σ : Nat → Nat) (v u : Value) : Prop := u = anyV ∨ (∃ p, v = tokV p ∧ u = (old[p]?).getD undef) ∨ (noTok v = true ∧ u = renV σ v)
def liftB (L' : List Nat) (os os' : List (Option LO)) (nx : Nat) (d : St) (r : RO) : Bool :=
  Nat.ble (r.st d).H.next nx && (Nat.ble os.length nx && (Nat.blt nx 1000000 && (L'.all (fun i => Nat.blt i nx) && (os.all (fun o => match o with | some o => noTokO o | none => true) && os'.all (fun o => match o with | some o => noTokO o | none => true)))))
section
variable {P : Program} {C : Ctx} {Q : Value → Heap → Prop}
theorem trArgs_at {vals : List Value} {n : Nat} (h : vals.length = n) (hn : n < 1000000) (i : Nat) : (trArgs vals 0 .nil).get i = vals[i]? := by
  rw [trArgs_get vals 0 .nil (by unfold big; omega)]
  by_cases hi : i < vals.length
  · rw [if_pos ⟨Nat.zero_le _, by omega⟩]; rfl
  · rw [if_neg (by omega), Tr.get_nil, List.getElem?_eq_none (by omega)]
theorem MWp.lift (hC : C.Ok P) {fn : Func} {k k' : List KI} {dst dst' : Option Tmp} {b0 b1 base : Nat} {vals vals' valsB valsB' : List Value} {os os' : List (Option LO)} {t : List (Bool × Bool)} {H : Heap} {d : St} (keep L L' : List Nat) (nx n : Nat) (p : Path)
    (h : headAt keep L' d (run C n p (mkSt fn k dst b0 vals os)) = (true, t, true, (fn, k', dst', b1), vals', os')) (hB : liftB L' os os' nx d (run C n p (mkSt fn k dst b0 vals os)) = true) (ht : trusted t)
    (hlen : L.length = os.length) (hnd : L.Nodup) (hvl : vals.length = fn.ntmps) (hvl' : valsB'.length = fn.ntmps) (hvlB : valsB.length = fn.ntmps) (hnt : fn.ntmps < 1000000) (hl : H.lock = 0) (hbig : H.next + nx < big)
    (hobj : ∀ (i b : Nat), L[i]? = some b → ∃ x, H.get b = some x ∧ ∀ o, (os[i]?).getD none = some o → x = renO (ext (sg L) os.length H.next) o)
    (hin : ∀ i, i < fn.ntmps → SlotI (ext (sg L) os.length H.next) i ((vals[i]?).getD undef) ((valsB[i]?).getD undef))
    (hout : ∀ i, i < fn.ntmps → SlotO valsB (fun j => ext (sg L) os.length H.next (sg L' j)) ((vals'[i]?).getD undef) ((valsB'[i]?).getD undef))
    (hs : ∀ K, K.lock = 0 → K.next = H.next + (nx - os.length) → (∀ i, i < H.next → i ∉ L → K.get i = H.get i) → (L'.map fun b => K.get (ext (sg L) os.length H.next b)) = os'.map (Option.map (renO fun j => ext (sg L) os.length H.next (sg L' j))) → MWp P (atSt fn k' dst' base valsB' K) Q) :
    MWp P (atSt fn k dst base valsB H) Q := by
  simp only [headAt, Prod.mk.injEq] at h
  obtain ⟨h1, h2, h3, ⟨h4, h5, h6, h7⟩, h8, h9⟩ := h
  simp only [liftB, Bool.and_eq_true] at hB
  obtain ⟨c1, c2, c3, c4, c5, c6⟩ := hB
  have c1 := Nat.le_of_ble_eq_true c1
  have c2 := Nat.le_of_ble_eq_true c2
  have c3 : nx < 1000000 := by simpa [Nat.blt_eq] using c3
  have c4 : ∀ i ∈ L', i < nx := fun i hi => by have := List.all_eq_true.1 c4 i hi; simpa [Nat.blt_eq] using this
  intro ρ w g gs R hr hf hfs hR
  simp only [atSt, FRL] at hfs; subst hfs
  have hf0 : g.fn = fn := hf.fn
  have hosl : os.length < big := by unfold big; omega
  have mget : ∀ j, (mkH os).get j = (os[j]?).getD none := mkH_get os hosl
  have hsgL : ∀ i, i < L.length → L[i]? = some (sg L i) := fun i hi => by
    unfold sg; rw [List.getD_eq_getElem?_getD, List.getElem?_eq_getElem hi]; rfl
  have hHlt : ∀ b ∈ L, b < H.next := fun b hb => by
    obtain ⟨i, hi, e⟩ := List.getElem_of_mem hb
    obtain ⟨x, hx, _⟩ := hobj i b (by rw [List.getElem?_eq_getElem hi, e])
    exact hr.ltn b x hx
  have hfit : Fits2 (sg L) (mkH os) H := by
    refine ⟨hosl, hl, fun i hi => ?_, fun i o ho => ?_, fun i o ho => ?_, fun i j hi hj e => ?_⟩
    · obtain ⟨x, hx, _⟩ := hobj i (sg L i) (hsgL i (by rw [hlen]; exact hi))
      exact ⟨x, hx⟩
    · rw [mget] at ho
      rcases Nat.lt_or_ge i os.length with h | h
      · exact h
      · rw [List.getElem?_eq_none h] at ho; cases ho
    · rw [mget] at ho
      have hi : i < os.length := by
        rcases Nat.lt_or_ge i os.length with h | h
        · exact h
        · rw [List.getElem?_eq_none h] at ho; cases ho
      obtain ⟨x, hx, hxo⟩ := hobj i (sg L i) (hsgL i (by rw [hlen]; exact hi))
      rw [hx, hxo o ho]; rfl
    · have hi : i < os.length := hi
      have hj : j < os.length := hj
      have e1 := hsgL i (by rw [hlen]; exact hi)
      have e2 := hsgL j (by rw [hlen]; exact hj)
      rw [e] at e1
      exact (List.getElem?_inj (by rw [hlen]; exact hi) hnd).1 (e1.trans e2.symm)
  have hrs := frame_in hfit hr
  have hτ : ext (sg L) (mkH os).next H.next = ext (sg L) os.length H.next := rfl
  rw [hτ] at hrs
  have htell : ∀ i o, (mkH os).get i = some o → noTokO o = true := fun i o ho => by
    rw [mget] at ho
    cases hi : os[i]? with
    | none => rw [hi] at ho; cases ho
    | some x =>
      rw [hi] at ho
      simp only [Option.getD_some] at ho
      have := List.all_eq_true.1 c5 x (List.mem_of_getElem? hi)
      rw [ho] at this; exact this
  have hFS : FR ((ρ.comp (ext (sg L) os.length H.next)).say fun i => g.a.tmps.getD i undef) (mkSt fn k dst b0 vals os).top g := by
    refine ⟨hf.fn, hf.k, hf.dst, hf.t.size, hf.t.small, fun i => ?_, hf.t.defers⟩
    have hv : VR ρ (((trArgs valsB 0 .nil).get i).getD undef) (g.a.tmps.getD i undef) := hf.t.val i
    show VR _ (((trArgs vals 0 .nil).get i).getD undef) _
    rw [trArgs_at hvl hnt]
    rw [trArgs_at hvlB hnt] at hv
    by_cases hi : i < fn.ntmps
    · rcases hin i hi with e | e | ⟨e1, e2⟩
      · rw [e]; exact VR_any _
      · rw [e]; simp only [tokV, VR, Ren.say]
      · rw [e2] at hv
        exact (VR_say _ _ e1).1 ((VR_ren _ _).1 hv)
    · rw [List.getElem?_eq_none (by omega)]
      have hsz : g.a.tmps.size = fn.ntmps := hf.t.size
      have hx : g.a.tmps.getD i undef = undef := by
        rw [Array.getD_eq_getD_getElem?, Array.getElem?_eq_none (by rw [hsz]; omega)]; rfl
      rw [hx]; exact VR_undef
  have hmain : MWpT P (mkSt fn k dst b0 vals os) (aimAt ((ρ.comp (ext (sg L) os.length H.next)).say fun i => g.a.tmps.getD i undef) w R) := by
    refine MWpT.seg hC n p h1 h2 ht (d := d) ?_
    generalize (run C n p (mkSt fn k dst b0 vals os)).st d = S1 at *
    simp only [colB, Bool.and_eq_true] at h3
    obtain ⟨k0, k1, k2, k3, k4, k5, k6, k7, k8⟩ := h3
    have hlock1 := Nat.eq_of_beq_eq_true k0
    have hrest1 : S1.rest = [] := by cases hh : S1.rest <;> simp_all
    have hnd' := nodupB_iff L' k2
    rintro ρ1 w1 g1 gs1 R1 hr1 hf1 hfs1 ⟨rfl, q1, q2, q3⟩
    rw [hrest1] at hfs1
    simp only [FRL] at hfs1; subst hfs1
    have L'big : ∀ b ∈ L', b < big := fun b hb => by have := c4 b hb; unfold big; omega
    obtain ⟨z1, z2⟩ := setZip_get L' (L'.map S1.H.get) .nil (by simp) L'big hnd'
    have hkget : ∀ b o, (setAll (L'.zip (L'.map S1.H.get)) .nil).get b = some o → b ∈ L' ∧ S1.H.get b = some o := fun b o ho => by
      by_cases hb : b ∈ L'
      · obtain ⟨j, hj, e⟩ := List.getElem_of_mem hb
        have := z1 j b (S1.H.get b) (by rw [List.getElem?_eq_getElem hj, e]) (by rw [List.getElem?_map, List.getElem?_eq_getElem hj, e]; rfl)
        rw [this] at ho; exact ⟨hb, ho⟩
      · rw [z2 b hb, Tr.get_nil] at ho; cases ho
    have hk1 : Rep ρ1 { m := setAll (L'.zip (L'.map S1.H.get)) .nil, next := S1.H.next } w1 :=
      Rep.weak (H := S1.H) ⟨rfl, hlock1.symm, fun b o ho => ⟨o, (hkget b o ho).2, OW.refl o⟩⟩ hr1
    have hk2 : Rep ρ1 { m := setAll (L'.zip (L'.map S1.H.get)) .nil, next := nx } w1 := Rep.grow (H := { m := setAll (L'.zip (L'.map S1.H.get)) .nil, next := S1.H.next }) c1 (by unfold big; omega) hk1
    have hk3 : Rep (ρ1.say ρ.tok) { m := setAll (L'.zip (L'.map S1.H.get)) .nil, next := nx } w1 := hk2.tell (fun b o ho => by
      obtain ⟨hb, e⟩ := hkget b o ho
      rw [← noTokO_col L']
      have hm : some (colO L' o) ∈ os' := by
        rw [← h9]
        unfold colObjs
        rw [List.mem_map]
        exact ⟨b, hb, by rw [e]⟩
      have := List.all_eq_true.1 c6 _ hm
      exact this)
    have hle : Ren.le (ρ.comp (ext (sg L) os.length H.next)) (ρ1.say ρ.tok) := ⟨fun i b e => ⟨(q1.all i b e).b, (q1.all i b e).cap, (q1.all i b e).ro, (q1.all i b e).off, (q1.all i b e).wd⟩, rfl⟩
    have hfr : Fresh (ρ.comp (ext (sg L) os.length H.next)) (ρ1.say ρ.tok) w := fun i b e => q2 i b e
    have hkp : Keep (ρ.comp (ext (sg L) os.length H.next)) w w1 := ⟨q3.os, q3.tape, q3.output, q3.size, q3.block⟩
    -- the great heap behind the part
    have Lbig : ∀ b ∈ L, b < big := fun b hb => Nat.lt_trans (hHlt b hb) hr.small
    have tlt : ∀ i, i < os.length → ext (sg L) os.length H.next i = sg L i := fun i hi => ext_lt hi
    have tge : ∀ i, os.length ≤ i → ext (sg L) os.length H.next i = H.next + (i - os.length) := fun i hi => ext_ge hi
    have sgm : ∀ i, i < os.length → sg L i ∈ L := fun i hi => List.mem_of_getElem? (hsgL i (by rw [hlen]; exact hi))
    have tinj : ∀ i j, ext (sg L) os.length H.next i = ext (sg L) os.length H.next j → i = j := fun i j e => by
      rcases Nat.lt_or_ge i os.length with hi | hi <;> rcases Nat.lt_or_ge j os.length with hj | hj
      · rw [tlt i hi, tlt j hj] at e; exact hfit.inj i j hi hj e
      · rw [tlt i hi, tge j hj] at e; have := hHlt _ (sgm i hi); omega
      · rw [tge i hi, tlt j hj] at e; have := hHlt _ (sgm j hj); omega
      · rw [tge i hi, tge j hj] at e; omega
    have hndT : (L'.map (ext (sg L) os.length H.next)).Nodup := List.Pairwise.map _ (fun a b hab e => hab (tinj a b e)) hnd'
    have hTbig : ∀ b ∈ L'.map (ext (sg L) os.length H.next), b < big := fun b hb => by
      obtain ⟨i, hi, rfl⟩ := List.mem_map.1 hb
      have := c4 i hi
      rcases Nat.lt_or_ge i os.length with h | h
      · rw [tlt i h]; exact Lbig _ (sgm i h)
      · rw [tge i h]; omega
    obtain ⟨x1, x2⟩ := setZip_get L (L.map fun _ => (none : Option LO)) H.m (by simp) Lbig hnd
    obtain ⟨y1, y2⟩ := setZip_get (L'.map (ext (sg L) os.length H.next)) (L'.map fun b => (S1.H.get b).map (renO (ext (sg L) os.length H.next))) (setAll (L.zip (L.map fun _ => none)) H.m) (by simp) hTbig hndT
    have xn : ∀ b ∈ L, (setAll (L.zip (L.map fun _ => (none : Option LO))) H.m).get b = none := fun b hb => by
      obtain ⟨j, hj, e⟩ := List.getElem_of_mem hb
      exact x1 j b none (by rw [List.getElem?_eq_getElem hj, e]) (by rw [List.getElem?_map, List.getElem?_eq_getElem hj]; rfl)
    let K : Heap := { m := setAll ((L'.map (ext (sg L) os.length H.next)).zip (L'.map fun b => (S1.H.get b).map (renO (ext (sg L) os.length H.next)))) (setAll (L.zip (L.map fun _ => none)) H.m), next := H.next + (nx - os.length) }
    have kT : ∀ b ∈ L', K.get (ext (sg L) os.length H.next b) = (S1.H.get b).map (renO (ext (sg L) os.length H.next)) := fun b hb => by
      obtain ⟨j, hj, e⟩ := List.getElem_of_mem hb
      exact y1 j _ _ (by rw [List.getElem?_map, List.getElem?_eq_getElem hj, e]; rfl) (by rw [List.getElem?_map, List.getElem?_eq_getElem hj, e]; rfl)
    have kN : ∀ b, b ∉ L'.map (ext (sg L) os.length H.next) → b ∉ L → K.get b = H.get b := fun b h1 h2 => by
      show (setAll _ _).get b = _
      rw [y2 b h1, x2 b h2]; rfl
    have kO : ∀ b, b ∉ L'.map (ext (sg L) os.length H.next) → b ∈ L → K.get b = none := fun b h1 h2 => by
      show (setAll _ _).get b = _
      rw [y2 b h1, xn b h2]
    have hm : Merged (sg L) (mkH os) H { m := setAll (L'.zip (L'.map S1.H.get)) .nil, next := nx } K := by
      refine ⟨rfl, c2, Nat.le_refl _, by show H.next + (nx - os.length) < big; omega, fun b o ho => ?_⟩
      by_cases h1 : b ∈ L'.map (ext (sg L) os.length H.next)
      · obtain ⟨i, hi, rfl⟩ := List.mem_map.1 h1
        rw [kT i hi] at ho
        cases hS : S1.H.get i with
        | none => rw [hS] at ho; cases ho
        | some os1 =>
          rw [hS] at ho
          simp only [Option.map_some, Option.some.injEq] at ho
          refine .inl ⟨i, os1, rfl, ?_, ho.symm⟩
          obtain ⟨j, hj, e⟩ := List.getElem_of_mem hi
          have := z1 j i (S1.H.get i) (by rw [List.getElem?_eq_getElem hj, e]) (by rw [List.getElem?_map, List.getElem?_eq_getElem hj, e]; rfl)
          exact this.trans hS
      · by_cases h2 : b ∈ L
        · rw [kO b h1 h2] at ho; cases ho
        · rw [kN b h1 h2] at ho
          exact .inr ⟨fun i hi e => h2 (by rw [← e]; exact sgm i hi), ho⟩
    obtain ⟨ρ', a1, a2, a3, a4, a5⟩ := frame_out hfit hr hle hfr hk3 hkp hm
    have hbk : (L'.map fun b => K.get (ext (sg L) os.length H.next b)) = os'.map (Option.map (renO fun j => ext (sg L) os.length H.next (sg L' j))) := by
      rw [← h9]
      unfold colObjs
      rw [List.map_map]
      apply List.map_congr_left
      intro b hb
      rw [kT b hb]
      cases hS : S1.H.get b with
      | none => simp [hS]
      | some o =>
        have hc : colOB L' o = true := by
          have := List.all_eq_true.1 k8 b hb
          rw [hS] at this; exact this
        simp only [Function.comp, hS, Option.map_some, Option.some.injEq]
        rw [← renO_renO (sg L') (ext (sg L) os.length H.next) (colO L' o), renO_fwd o hc]
    have hold : ∀ i, i < H.next → i ∉ L → K.get i = H.get i := fun i hi h2 => by
      refine kN i (fun h1 => ?_) h2
      obtain ⟨j, hj, rfl⟩ := List.mem_map.1 h1
      rcases Nat.lt_or_ge j os.length with h | h
      · rw [tlt j h] at h2; exact h2 (sgm j h)
      · rw [tge j h] at hi; omega
    have hgo := hs K rfl rfl hold hbk
    have hfn1 : S1.top.fn = fn := h4
    refine hgo ρ' w1 g1 [] R1 a3 ⟨hf1.fn.trans h4, hf1.k.trans h5, hf1.dst.trans h6, by rw [← hfn1]; exact hf1.t.size, by rw [← hfn1]; exact hf1.t.small, fun i => ?_, hf1.t.defers⟩ (by simp [atSt, FRL]) (fun ρ'' v v' H'' w'' hq e1 e2 e3 e4 e5 => hR ρ'' v v' H'' w'' hq (Ren.le_trans (Ren.cut_le a1 _) e1) (Fresh.trans a4.size a2 e2) e3 e4 (Keep.trans a2 a4 e5))
    show VR ρ' (((trArgs valsB' 0 .nil).get i).getD undef) _
    rw [trArgs_at hvl' hnt]
    have hv1 := hf1.t.val i
    by_cases hi : i < fn.ntmps
    · have hcv : (vals'[i]?).getD undef = bif memB keep i then renV (posOf L') ((S1.top.t.get i).getD undef) else anyV := by
        rw [← h8, hfn1]; simp [colVals, hi]
      cases hk : memB keep i with
      | false =>
        rw [hk] at hcv; simp only [cond_false] at hcv
        rcases hout i hi with e | ⟨p, e, _⟩ | ⟨_, e⟩
        · rw [e]; exact VR_any _
        · rw [hcv] at e; simp [anyV, tokV] at e
        · rw [e, hcv]; exact VR_any _
      | true =>
        rw [hk] at hcv; simp only [cond_true] at hcv
        have hbl : blks (memB L') ((S1.top.t.get i).getD undef) = true := by
          have := List.all_eq_true.1 k7 i (List.mem_range.2 (by rw [hfn1]; exact hi))
          rw [hk] at this; exact this
        have hraw := ren_fwd _ hbl
        rw [← hcv] at hraw
        rcases hout i hi with e | ⟨p, e, e2⟩ | ⟨e0, e⟩
        · rw [e]; exact VR_any _
        · rw [e] at hraw
          rw [← hraw] at hv1
          simp only [tokV, renV, VR] at hv1
          rw [hv1, q1.tok, e2]
          have := hf.t.val p
          have hp : VR ρ (((trArgs valsB 0 .nil).get p).getD undef) (g.a.tmps.getD p undef) := this
          rw [trArgs_at hvlB hnt] at hp
          exact VR.mono a1 _ _ hp
        · rw [e]
          have hn : noTok ((S1.top.t.get i).getD undef) = true := by rw [← hraw, noTok_ren]; exact e0
          have := a5 _ _ ((VR_say (τ := ρ.tok) _ _ hn).1 hv1)
          rw [← hraw, ren_ren] at this
          exact this
    · rw [List.getElem?_eq_none (by omega)]
      have hx : g1.a.tmps.getD i undef = undef := by
        rw [Array.getD_eq_getD_getElem?, Array.getElem?_eq_none (by rw [hf1.t.size, hfn1]; omega)]; rfl
      rw [hx]; exact VR_undef
  exact hmain _ w g [] R (hrs.tell htell) hFS (by simp [mkSt, FRL]) ⟨rfl, Ren.le_refl _, Fresh.refl _ _, Keep.refl _ _⟩
end
end Go.Ly
namespace Go.Ly
open Go.RowKit
section
variable {P : Program} {C : Ctx} {Q : Value → Heap → Prop} {E : Env}
def SlotW (u u' : Value) : Prop := ∀ (ρ : Ren) (x : Value), VR ρ u x → VR ρ u' x
theorem SlotW.any (u : Value) : SlotW u anyV := fun _ _ _ => VR_any _
def SlotsR (R : Nat → Value → Value → Prop) : List (Nat × Value) → List (Nat × Value) → Prop
  | [], [] => True
  | (i, v) :: r, (j, u) :: s => i = j ∧ R i v u ∧ SlotsR R r s
  | _, _ => False
theorem slots_len (n : Nat) (l : List (Nat × Value)) : (Ly.slots n l).length = n := by simp [Ly.slots]
theorem slots_at {n i : Nat} (h : i < n) (l : List (Nat × Value)) : (((Ly.slots n l))[i]?).getD undef = lookS l i := by
  simp [Ly.slots, h]
theorem lookS_rel {R : Nat → Value → Value → Prop} (h0 : ∀ i, R i anyV anyV) : ∀ {l l' : List (Nat × Value)}, SlotsR R l l' → ∀ i, R i (lookS l i) (lookS l' i)
  | [], [], _, i => h0 i
  | (j, v) :: r, (j', u) :: s, h, i => by
    obtain ⟨rfl, h1, h2⟩ := h
    simp only [lookS]
    cases hb : Nat.beq j i with
    | true => have := Nat.eq_of_beq_eq_true hb; subst this; exact h1
    | false => exact lookS_rel h0 h2 i
  | [], _ :: _, h, _ => h.elim
  | _ :: _, [], h, _ => h.elim
theorem slots_rel {R : Nat → Value → Value → Prop} (h0 : ∀ i, R i anyV anyV) {n : Nat} {l l' : List (Nat × Value)} (h : SlotsR R l l') (i : Nat) (hi : i < n) : R i (((Ly.slots n l)[i]?).getD undef) (((Ly.slots n l')[i]?).getD undef) := by
  rw [slots_at hi, slots_at hi]; exact lookS_rel h0 h i
theorem MWp.objW {S : St} {b : Nat} {o o' : LO} (hg : S.H.get b = some o) (ho : o.own = true) (ho' : o'.own = true) (hb : b < big) (hw : ∀ (ρ : Ren) (x : Obj), OR ρ b o x → OR ρ b o' x) (hs : MWp P { S with H := S.H.put b o' } Q) : MWp P S Q := by
  intro ρ w g gs R hr hf hfs hR
  refine hs ρ w g gs R ?_ hf hfs hR
  have hget : ∀ i, (S.H.put b o').get i = if i = b then some o' else S.H.get i := fun i => Tr.get_set _ _ _ hb i
  refine ⟨hr.small, hr.dom, fun i j c x hi hx hj h1 h2 => ?_, fun i x hi => ?_, fun i x hi hx => ?_, fun i k g n hi => ?_, hr.fix⟩
  · have hi' : ∃ y, S.H.get i = some y ∧ y.own = true := by
      rw [hget] at hi
      split at hi
      · rename_i e; subst e; exact ⟨o, hg, ho⟩
      · exact ⟨x, hi, hx⟩
    have hj' : (S.H.get j).isSome := by
      rw [hget] at hj
      split at hj
      · rename_i e; subst e; rw [hg]; rfl
      · exact hj
    obtain ⟨y, e1, e2⟩ := hi'
    exact hr.inj i j c y e1 e2 hj' h1 h2
  · rw [hget] at hi
    split at hi
    · rename_i e; subst e; exact hr.ltn i o hg
    · exact hr.ltn i x hi
  · rw [hget] at hi
    split at hi
    · rename_i e; subst e
      simp only [Option.some.injEq] at hi; subst hi
      obtain ⟨h1, c, x', h2, h3, h4⟩ := hr.obj i o hg ho
      exact ⟨h1, c, x', h2, h3, hw ρ x' h4⟩
    · exact hr.obj i x hi hx
  · rw [hget] at hi
    split at hi
    · simp only [Option.some.injEq] at hi; subst hi; simp [LO.own] at ho'
    · exact hr.arg i k g n hi
theorem OR.less {ρ : Ren} {i k : Nat} {g : Nat → Nat → Value} {n m : Nat} {t : TypeId} {x : Obj} (hm : m ≤ n) (h : OR ρ i (.fn k g n t) x) : OR ρ i (.fn k g m t) x := by
  obtain ⟨h0, hk, c', d', rfl, h1, h2, h3⟩ := h
  have hmk : m * k ≤ n * k := Nat.mul_le_mul_right _ hm
  refine ⟨h0, hk, c'.take (m * k), c'.drop (m * k) ++ d', by rw [← List.append_assoc, List.take_append_drop], by rw [List.length_take]; omega, by rw [List.length_append, List.length_take, List.length_drop]; omega, ⟨fun e j he hj => ?_, fun e j he hj => h3.one e j (by omega) hj⟩⟩
  obtain ⟨v', k1, k2⟩ := h3.val e j (by omega) hj
  refine ⟨v', ?_, k2⟩
  have : 0 + (e * k + j) < m * k := by
    have : e * k + k ≤ m * k := by rw [← Nat.succ_mul]; exact Nat.mul_le_mul_right _ he
    omega
  rw [List.getElem?_take, if_pos this]; exact k1
theorem OR.eqv {ρ : Ren} {i : Nat} {o o' : LO} {x : Obj} (h : LOeq o o') (ho : OR ρ i o x) : OR ρ i o' x := h.or ho
def opAt (S : St) : Option Oper :=
  match S.top.k with
  | .ops all (o :: _) :: _ => bif guardB all S.top.t S.top.fn.ntmps o && dstOk S.top.fn.ntmps o.dst then some o else none
  | _ => none
def ER.To : ER → ER → Prop
  | .tst b x y, z => (b = true ∧ x.To z) ∨ (b = false ∧ y.To z)
  | e, z => e = z
theorem Next.Good_to {ρ : Ren} {w : World} {r : Result Next} : ∀ (e z : ER), e.To z → Next.Good P ρ w r e → Next.Good P ρ w r z
  | .tst b x y, z, h, hg => by
    rcases h with ⟨rfl, h⟩ | ⟨rfl, h⟩
    · exact Next.Good_to x z h (hg.1 rfl)
    · exact Next.Good_to y z h (hg.2 rfl)
  | .val _, _, h, hg => by cases h; exact hg
  | .mem _ _, _, h, hg => by cases h; exact hg
  | .skip _, _, h, hg => by cases h; exact hg
  | .call _ _, _, h, hg => by cases h; exact hg
  | .no, _, h, hg => by cases h; exact hg
def ER.Ends (H : Heap) (v : Value) (H' : Heap) : ER → Prop
  | .val u => u = v ∧ H' = H
  | .mem u K => u = v ∧ H' = K
  | .skip K => v = undef ∧ H' = K
  | _ => False
theorem MWp.op {S : St} {o : Oper} {er : ER} {v : Value} {H' : Heap} (h : opAt S = some o) (hg : ∀ (ρ : Ren) (w : World) (g : AF), Rep ρ S.H w → FR ρ S.top g → Next.Good P ρ w ((execOp g.a.eval o).run P w) er) (he : er.Ends S.H v H')
    (hs : MWp P (behind S v H') Q) : MWp P S Q := by
  unfold opAt at h
  split at h
  · rename_i all o' l k hk
    cases hc : (guardB all S.top.t S.top.fn.ntmps o' && dstOk S.top.fn.ntmps o'.dst) with
    | false => rw [hc] at h; cases h
    | true =>
      rw [hc] at h; simp only [cond_true, Option.some.injEq] at h; subst h
      simp only [Bool.and_eq_true] at hc
      intro ρ w g gs R hr hf hfs hR
      unfold stateWp
      rw [hf.k, hk]
      show wpList P all _ (o' :: l) g.a w
      unfold wpList
      rw [guardB_wanted P hf hc.1, if_pos rfl]
      left
      have hgood := hg ρ w g hr hf
      have hput : (putFr S (.ops all l :: k) o'.dst v H').sat P Q := by
        unfold putFr
        rw [hc.2]
        unfold behind at hs
        rw [hk] at hs
        exact hs
      cases er with
      | val u =>
        obtain ⟨rfl, rfl⟩ := he
        obtain ⟨v', hv, hrun⟩ := hgood
        unfold Oper.wp; rw [hrun]
        exact putFr_sound hput hf hfs (Ren.le_refl ρ) (Fresh.refl ρ w) hr (Keep.refl ρ w) hv hR
      | mem u K =>
        obtain ⟨rfl, rfl⟩ := he
        obtain ⟨ρ', v', w', h1, h2, h3, hrun, h5, h6⟩ := hgood
        unfold Oper.wp; rw [hrun]
        exact putFr_sound hput hf hfs h1 h2 h5 h6 h3 hR
      | skip K =>
        obtain ⟨rfl, rfl⟩ := he
        obtain ⟨w', hrun, h5, h6⟩ := hgood
        unfold Oper.wp; rw [hrun]
        exact putFr_sound hput hf hfs (Ren.le_refl ρ) (Fresh.refl ρ w) h5 h6 VR_undef hR
      | call _ _ => exact he.elim
      | tst _ _ _ => exact he.elim
      | no => exact he.elim
  · cases h
theorem MWp.opE (hE : E.Ok P) {S : St} {o : Oper} {er e0 : ER} {v : Value} {H' : Heap} (h : opAt S = some o) (h0 : evOp E S.H S.top.t o = e0) (ht : e0.To er) (he : er.Ends S.H v H') (hs : MWp P (behind S v H') Q) : MWp P S Q :=
  MWp.op h (fun ρ w g hr hf => Next.Good_to _ _ (by rw [h0]; exact ht) (evOp_good hE hr hf.t o)) he hs
def evAt (E : Env) (S : St) : Option ER := (opAt S).map fun o => evOp E S.H S.top.t o
theorem MWp.evA (hE : E.Ok P) {S : St} {er e0 : ER} {v : Value} {H' : Heap} (h : evAt E S = some e0) (ht : e0.To er) (he : er.Ends S.H v H') (hs : MWp P (behind S v H') Q) : MWp P S Q := by
  unfold evAt at h
  cases ho : opAt S with
  | none => rw [ho] at h; cases h
  | some o =>
    rw [ho] at h
    simp only [Option.map_some, Option.some.injEq] at h
    exact MWp.opE hE ho h ht he hs
theorem evLoad_cells {H : Heap} {ty b off : Nat} {c : List Value} {t : TypeId} {i : TI} {v : Value} (h : H.get b = some (.cells c t)) (hi : E.ty.get ty = some i) (ha : isAggD i.desc = false) (hv : c[off]? = some v) : evLoad E H ty (.pointer (some ⟨b, off, none⟩)) = .val v := by
  unfold evLoad
  simp only [h, hi, LO.row?, ha, cond_false, LO.cs, hv]
theorem evStore_cells {H : Heap} {ty b off : Nat} {c : List Value} {t : TypeId} {i : TI} {v : Value} (h : H.get b = some (.cells c t)) (hi : E.ty.get ty = some i) (hsz : i.size = 1) (hv : cellsL v = [v]) (h1 : one v = true) (ho : off < c.length) (hl : H.lock = 0) :
    evStore E H ty (.pointer (some ⟨b, off, none⟩)) v = .skip (H.put b (.cells (c.set off v) t)) := by
  unfold evStore
  simp only [h, hi, hv, hsz, List.length_singleton, Nat.beq_refl, List.all_cons, List.all_nil, h1, Bool.and_self, Bool.true_and, LO.cs, hl]
  have e1 : Nat.ble (off + 1) c.length = true := Nat.ble_eq_true_of_le ho
  have e2 : Nat.ble 0 b = true := Nat.ble_eq_true_of_le (Nat.zero_le _)
  rw [e1, e2]
  rfl
end
end Go.Ly
namespace Go.Proofs.Ytdjmpilegommlaa
open Go Go.Ly Go.RowKit
def zF : Nat → Int := fun _ => 0
def cxL : Ctx := (cxM.withH 19 nxC).rows
theorem cxL_ok : cxL.Ok Try.prog := (cxM_ok.withH nxC_good).rows
def lvD : St := Ly.start Try.f14 [] H0
def lvS0 (a o n : Nat → Int) (k : Nat) : St := Ly.start Try.f14 [sls 0 k] (mkH [some (ndL a o n k)])
def cxL31 : Ctx := haltAt cxL 31
theorem cxL31_ok : cxL31.Ok Try.prog := haltAt_ok cxL_ok 31
def lvK0 : List KI := ((Ly.run cxL31 60 [] (lvS0 zF zF zF 0)).st lvD).top.k
def lvV0 (k : Nat) : List Value := slots 156 [(0, sls 0 k), (18, sls 0 k)]
def lvB0 (a o n : Nat → Int) (k : Nat) (b : Bool) (H : Heap) : St := behind (mkSt Try.f14 lvK0 none 1 (lvV0 k) [some (ndL a o n k)]) (.bool b) H
def lpK : List KI := ((Ly.run cxL 13 [] (lvB0 zF zF zF 0 true (mkH [some (ndL zF zF zF 0)]))).st lvD).top.k
def lpV (k : Nat) (i : Int) : List Value := slots 156 [(0, sls 0 k), (21, sls 0 k), (22, .int .i64 k), (23, .int .i64 i)]
theorem lvG : cxL31.fn.get 14 = some Try.f14 := by kernel_rfl
theorem lv_0 (a o n : Nat → Int) (k : Nat) : headAt [0, 18] [0] lvD (Ly.run cxL31 60 [] (lvS0 a o n k)) = (true, [], true, (Try.f14, lvK0, none, 1), lvV0 k, [some (ndL a o n k)]) := by kernel_rfl
theorem lv_C (a o n : Nat → Int) (k : Nat) : callOf env (mkSt Try.f14 lvK0 none 1 (lvV0 k) [some (ndL a o n k)]) = some (31, [sls 0 k, soF]) := by kernel_rfl
def badT : Value := .tuple ⟨[.slice none 0 0, .int .i64 1]⟩
theorem lv_F (a o n : Nat → Int) (k : Nat) (H : Heap) : (Ly.run cxL 60 [] (lvB0 a o n k false H)).out? = some ([], badT) := by kernel_rfl
def xA (a : Nat → Int) (i : Int) : Int := a (0 + i.toNat)
def lpT (o : Nat → Int) (k : Nat) (i : Int) (l : List (Bool × Bool)) : List (Bool × Bool) := (decide (i < k), true) :: (ixB k i, true) :: (Nat.blt (0 + i.toNat) k, true) :: (inb (xO o i), true) :: l
def lpP (l : Path) : Path := (0, true) :: (0, true) :: (0, true) :: (0, true) :: l
theorem lp_S (a o n : Nat → Int) (k : Nat) (i : Int) : (Ly.run cxL 200 (lpP [(0, false)]) (mkSt Try.f14 lpK none 1 (lpV k i) [some (ndL a o n k)])).out? = some (lpT o k i [((sizeT (xO o i) == 0) == false, false)], badT) := by kernel_rfl
theorem lp_A (a o n : Nat → Int) (k : Nat) (i : Int) : headAt [0, 21, 22, 23] [0] lvD (Ly.run cxL 28 (lpP [(0, true), (2, false)]) (mkSt Try.f14 lpK none 1 (lpV k i) [some (ndL a o n k)])) = (true, lpT o k i [((sizeT (xO o i) == 0) == false, true), (decide (0 < i) == true, false)], true, (Try.f14, lpK, none, 1), lpV k (IntKind.i64.wrap (i + 1)), [some (ndL a o n k)]) := by kernel_rfl
def lpU (a o : Nat → Int) (k : Nat) (i : Int) (l : List (Bool × Bool)) : List (Bool × Bool) := lpT o k i (((sizeT (xO o i) == 0) == false, true) :: (decide (0 < i) == true, true) :: (ixB k (soW i), true) :: (Nat.blt (0 + (soW i).toNat) k, true) :: l)
def lpQ (l : Path) : Path := lpP ((0, true) :: (2, true) :: (3, true) :: (2, true) :: l)
theorem lp_E (a o n : Nat → Int) (k : Nat) (i : Int) : (Ly.run cxL 200 (lpQ [(6, true)]) (mkSt Try.f14 lpK none 1 (lpV k i) [some (ndL a o n k)])).out? = some (lpU a o k i [(xA a (soW i) == xA a i, true)], badT) := by kernel_rfl
theorem lp_I (a o n : Nat → Int) (k : Nat) (i : Int) : headAt [0, 21, 22, 23] [0] lvD (Ly.run cxL 28 (lpQ [(6, false)]) (mkSt Try.f14 lpK none 1 (lpV k i) [some (ndL a o n k)])) = (true, lpU a o k i [(xA a (soW i) == xA a i, false)], true, (Try.f14, lpK, none, 1), lpV k (IntKind.i64.wrap (i + 1)), [some (ndL a o n k)]) := by kernel_rfl
def zL (k : Nat) : LO := .fn 1 (fun x q => ((cellsL (Value.int .i64 0))[q]?).getD undef) k 3
def niL (k : Nat) : LO := .cells (List.replicate k (.slice none 0 0)) 26
def aV (k ba : Nat) : Value := .slice (some ⟨ba, 0, none⟩) k k
def laV0 (k : Nat) : List Value := slots 156 [(0, sls 0 k), (6, sl 1 k), (7, aV k 2), (8, .slice none 0 0), (55, .int .i64 k), (56, .int .i64 0)]
def laK : List KI := ((Ly.run cxL 34 [(0, false), (0, true), (0, true)] (mkSt Try.f14 lpK none 1 (lpV 0 0) [some (ndL zF zF zF 0)])).st lvD).top.k
def laH0 (a o n : Nat → Int) (k : Nat) : Heap := ((mkH [some (ndL a o n k)]).new (zL k)).new (niL k)
theorem lp_T (a o n : Nat → Int) (k : Nat) (i : Int) : haltF [0, 6, 7, 8, 55, 56] lvD (Ly.run cxL 34 [(0, false), (0, true), (0, true)] (mkSt Try.f14 lpK none 1 (lpV k i) [some (ndL a o n k)])) = (true, [(decide (i < k), false), (decide ((0 : Int) ≤ k) && (decide ((k : Int) ≤ k) && decide ((k : Int) ≤ 4294967296)), true), (decide ((0 : Int) ≤ k) && (decide ((k : Int) = k) && decide ((k : Int) ≤ 65536)), true)], true, (Try.f14, laK, none, 1), laV0 k, laH0 a o n k) := by kernel_rfl
theorem lp_loop {Q : Value → Heap → Prop} (a o n : Nat → Int) (k : Nat) (hk : k ≤ 100) (ho : ∀ e, e < k → inb (o e) = true) (hrise : ∀ e, e + 1 < k → a e ≤ a (e + 1))
    (hgood : riN k a o = true → MWp Try.prog (atSt Try.f14 laK none 1 (laV0 k) (laH0 a o n k)) Q) (hbad : riN k a o = false → ∀ H, Q badT H) : ∀ (d i : Nat), i + d = k → riF a o d i = riN k a o →
    MWp Try.prog (mkSt Try.f14 lpK none 1 (lpV k i) [some (ndL a o n k)]) Q
  | 0, i, hd, he => by
    obtain rfl : i = k := by omega
    refine MWp.halted cxL_ok _ _ _ (lp_T a o n i i) (by simp [trusted]; omega) (hgood (by rw [← he]; rfl))
  | d + 1, i, hd, he => by
    obtain ⟨h1, h2, h3, h4⟩ := ix_tests (show i < k by omega)
    have h5 : xO o (i : Int) = o i := by unfold xO; rw [h3]
    have h6 : xA a (i : Int) = a i := by unfold xA; rw [h3]
    have h7 := ho i (by omega)
    have hw : IntKind.i64.wrap ((i : Int) + 1) = ((i + 1 : Nat) : Int) := by rw [IntKind.wrap_i64]; omega
    cases hs : (sizeT (o i) == 0) with
    | true => exact MWp.out cxL_ok 200 _ (lp_S a o n k i) (by simp only [lpT, trusted, h1, h2, h3, h4, h5, h7, hs, and_self, true_and]; exact ⟨rfl, trivial⟩) (hbad (by rw [← he]; simp only [riF, riB, hs, Bool.or_true, cond_true]))
    | false =>
      have hs' : ((sizeT (o i) == 0) == false) = true := by rw [hs]; rfl
      rcases i with _ | i
      · refine MWp.head cxL_ok _ _ _ _ (lp_A a o n k ((0 : Nat) : Int)) (by simp only [lpT, trusted, h1, h2, h3, h4, h5, h7, hs', and_self, true_and]; exact ⟨by decide, trivial⟩) (ow_P a o n k) ?_
        rw [hw]
        refine lp_loop a o n k hk ho hrise hgood hbad d 1 (by omega) ?_
        rw [← he]; simp only [riF, riB, hs, Nat.beq_refl, cond_true, Bool.or_false, cond_false]
      · obtain ⟨g1, g2, g3, g4⟩ := ix_tests (show i < k by omega)
        have hw2 : soW ((i + 1 : Nat) : Int) = (i : Int) := by unfold soW; rw [IntKind.wrap_i64]; omega
        have h0 : (decide ((0 : Int) < ((i + 1 : Nat) : Int)) == true) = true := by simp
        have g6 : xA a (i : Int) = a i := by unfold xA; rw [g3]
        cases hc : (a i == a (i + 1)) with
        | true => exact MWp.out cxL_ok 200 _ (lp_E a o n k ((i + 1 : Nat) : Int)) (by simp only [lpU, lpT, trusted, h0, h1, h2, h3, h4, h5, h6, h7, hs', hw2, g2, g3, g4, g6, hc, and_self]) (hbad (by
          rw [← he]
          have hc' : a i = a (i + 1) := by simpa using hc
          have hd : decide (a (i + 1) ≤ a (i + 1 - 1)) = true := by rw [decide_eq_true_iff, Nat.add_sub_cancel]; omega
          have hb : Nat.beq (i + 1) 0 = false := rfl
          simp only [riF, riB, hb, hs, cond_false, hd, Bool.true_or, cond_true]))
        | false =>
          refine MWp.head cxL_ok _ _ _ _ (lp_I a o n k ((i + 1 : Nat) : Int)) (by simp only [lpU, lpT, trusted, h0, h1, h2, h3, h4, h5, h6, h7, hs', hw2, g2, g3, g4, g6, hc, and_self]) (ow_P a o n k) ?_
          rw [hw]
          refine lp_loop a o n k hk ho hrise hgood hbad d (i + 1 + 1) (by omega) ?_
          rw [← he]
          have hb : Nat.beq (i + 1) 0 = false := rfl
          have hr := hrise i (by omega)
          have hc' : a i ≠ a (i + 1) := by simpa using hc
          have hd : decide (a (i + 1) ≤ a (i + 1 - 1)) = false := by rw [decide_eq_false_iff_not, Nat.add_sub_cancel]; omega
          simp only [riF, riB, hb, hs, cond_false, hd, Bool.or_self]
end Go.Proofs.Ytdjmpilegommlaa
namespace Go.Proofs.Ytdjmpilegommlaa
open Go Go.Ly Go.RowKit
def inL (g : Nat → Int) (m : Nat) : LO := .fn 1 (fun e _ => .int .i64 (g e)) m 3
def rowT3 (a o n : Nat → Int) (k : Nat) : Bool := Nat.ble (0 + k) k && (okN k (fun e x => ndG a o n (0 + e) x) && (List.range k).all fun e => inb (sh o e))
def nxS (a o n : Nat → Int) (k : Nat) (i : Int) : List Int × Bool := nxF k (sh a) (sh o) (sh n) i
def nxG (a o n : Nat → Int) (k : Nat) (i : Int) : Nat → Int := fun e => ((nxS a o n k i).1[e]?).getD 0
def nxM (a o n : Nat → Int) (k : Nat) (i : Int) : Nat := (nxS a o n k i).1.length
def a1L (k : Nat) (i : Int) : List (Nat × Value) := [(0, sls 0 k), (6, sl 1 k), (7, tokV 7), (8, tokV 8), (55, .int .i64 k), (56, .int .i64 i)]
def a1V (k : Nat) (i : Int) : List Value := slots 156 (a1L k i)
def a1O (a o n g : Nat → Int) (k : Nat) : List (Option LO) := [some (ndL a o n k), some (inL g k)]
def laI : List KI := ((Ly.run cxL 41 [(0, true), (0, true), (0, false), (0, false)] (mkSt Try.f14 laK none 1 (a1V 0 0) (a1O zF zF zF zF 0))).st lvD).top.k
def a2L (k m : Nat) (i : Int) (t : Value) : List (Nat × Value) := [(0, sls 0 k), (6, sl 1 k), (7, tokV 7), (8, tokV 8), (9, .int .i64 i), (55, .int .i64 k), (56, .int .i64 i), (69, t), (70, .int .i64 m), (71, .int .i64 0)]
def a1T (a o n : Nat → Int) (k : Nat) (i : Int) (l : List (Bool × Bool)) : List (Bool × Bool) := (decide (i < k), true) :: (rowT3 a o n k, true) :: l
def inU (g : Nat → Int) (i : Int) (k : Nat) : LO := .fn 1 (updG (fun e _ => .int .i64 (g e)) (0 + i.toNat * 1) 0 [.int .i64 31]) k 3
def r1 (p : Path) (f : Nat) (a o n g : Nat → Int) (k : Nat) (i : Int) : RO := Ly.run cxL f p (mkSt Try.f14 laK none 1 (a1V k i) (a1O a o n g k))
def pA1 : Path := [(0, true), (0, true), (0, false), (0, false)]
def pA2 : Path := [(0, true), (0, true), (0, false), (0, true), (0, true), (0, true)]
def pA3 : Path := [(0, true), (0, true), (0, true), (0, false)]
def pA4 : Path := [(0, true), (0, true), (0, true), (0, true), (0, true), (0, true)]
theorem sa1 (a o n g : Nat → Int) (k : Nat) (i : Int) : headAt [0, 6, 7, 8, 9, 55, 56, 69, 70, 71] [0, 1, 2] lvD (r1 pA1 41 a o n g k i) = (true, a1T a o n k i [(Nat.beq (nxM a o n k i) 0, false), ((nxS a o n k i).2, false)], true, (Try.f14, laI, none, 1), slots 156 (a2L k (nxM a o n k i) i (sl 2 (nxM a o n k i))), [some (ndL a o n k), some (inL g k), some (inL (nxG a o n k i) (nxM a o n k i))]) := by kernel_rfl
theorem sa2 (a o n g : Nat → Int) (k : Nat) (i : Int) : headAt [0, 6, 7, 8, 9, 55, 56, 69, 70, 71] [0, 1, 2] lvD (r1 pA2 46 a o n g k i) = (true, a1T a o n k i [(Nat.beq (nxM a o n k i) 0, false), ((nxS a o n k i).2, true), (ixB k i, true), (Nat.blt (0 + i.toNat * 1) k, true)], true, (Try.f14, laI, none, 1), slots 156 (a2L k (nxM a o n k i) i (sl 2 (nxM a o n k i))), [some (ndL a o n k), some (inU g i k), some (inL (nxG a o n k i) (nxM a o n k i))]) := by kernel_rfl
theorem sa3 (a o n g : Nat → Int) (k : Nat) (i : Int) : headAt [0, 6, 7, 8, 9, 55, 56, 69, 70, 71] [0, 1] lvD (r1 pA3 41 a o n g k i) = (true, a1T a o n k i [(Nat.beq (nxM a o n k i) 0, true), ((nxS a o n k i).2, false)], true, (Try.f14, laI, none, 1), slots 156 (a2L k 0 i (.slice none 0 0)), [some (ndL a o n k), some (inL g k)]) := by kernel_rfl
theorem sa4 (a o n g : Nat → Int) (k : Nat) (i : Int) : headAt [0, 6, 7, 8, 9, 55, 56, 69, 70, 71] [0, 1] lvD (r1 pA4 46 a o n g k i) = (true, a1T a o n k i [(Nat.beq (nxM a o n k i) 0, true), ((nxS a o n k i).2, true), (ixB k i, true), (Nat.blt (0 + i.toNat * 1) k, true)], true, (Try.f14, laI, none, 1), slots 156 (a2L k 0 i (.slice none 0 0)), [some (ndL a o n k), some (inU g i k)]) := by kernel_rfl
theorem sb1 (a o n g : Nat → Int) (k : Nat) (i : Int) : liftB [0, 1, 2] (a1O a o n g k) [some (ndL a o n k), some (inL g k), some (inL (nxG a o n k i) (nxM a o n k i))] 3 lvD (r1 pA1 41 a o n g k i) = true := by kernel_rfl
theorem sb2 (a o n g : Nat → Int) (k : Nat) (i : Int) : liftB [0, 1, 2] (a1O a o n g k) [some (ndL a o n k), some (inU g i k), some (inL (nxG a o n k i) (nxM a o n k i))] 3 lvD (r1 pA2 46 a o n g k i) = true := by kernel_rfl
theorem sb3 (a o n g : Nat → Int) (k : Nat) (i : Int) : liftB [0, 1] (a1O a o n g k) [some (ndL a o n k), some (inL g k)] 3 lvD (r1 pA3 41 a o n g k i) = true := by kernel_rfl
theorem sb4 (a o n g : Nat → Int) (k : Nat) (i : Int) : liftB [0, 1] (a1O a o n g k) [some (ndL a o n k), some (inU g i k)] 3 lvD (r1 pA4 46 a o n g k i) = true := by kernel_rfl
def i1L (m : Nat) (j : Int) : List (Nat × Value) := [(0, tokV 0), (6, tokV 6), (7, tokV 7), (8, tokV 8), (9, tokV 9), (55, tokV 55), (56, tokV 56), (69, sl 0 m), (70, .int .i64 m), (71, .int .i64 j)]
def r2 (p : Path) (f : Nat) (g : Nat → Int) (m : Nat) (j : Int) : RO := Ly.run cxL f p (mkSt Try.f14 laI none 1 (slots 156 (i1L m j)) [some (inL g m)])
def pI : Path := [(0, true), (0, true), (0, true)]
def la2 : List KI := ((r2 pI 15 zF 0 0).st lvD).top.k
def gA (g : Nat → Int) (j : Int) : Int := g (0 + j.toNat * 1)
def i2L (m : Nat) (j v : Int) : List (Nat × Value) := [(0, tokV 0), (6, tokV 6), (7, tokV 7), (8, tokV 8), (9, tokV 9), (13, .int .i64 v), (55, tokV 55), (56, tokV 56), (69, sl 0 m), (70, .int .i64 m), (71, .int .i64 j)]
theorem si1 (g : Nat → Int) (m : Nat) (j : Int) : headAt [0, 6, 7, 8, 9, 13, 55, 56, 69, 70, 71] [0] lvD (r2 pI 15 g m j) = (true, [(decide (j < m), true), (ixB m j, true), (Nat.blt (0 + j.toNat * 1) m, true)], true, (Try.f14, la2, none, 1), slots 156 (i2L m j (gA g j)), [some (inL g m)]) := by kernel_rfl
theorem sib (g : Nat → Int) (m : Nat) (j : Int) : liftB [0] [some (inL g m)] [some (inL g m)] 1 lvD (r2 pI 15 g m j) = true := by kernel_rfl
structure AB where
  k : Nat
  bo : Nat
  ba : Nat
  bt : Nat
  m : Nat
  i : Int
  j : Int
  v : Int
  w : Value
def t2L (x : AB) : List (Nat × Value) := [(0, sls 0 x.k), (6, sl x.bo x.k), (7, aV x.k x.ba), (8, x.w), (9, .int .i64 x.i), (13, .int .i64 x.v), (55, .int .i64 x.k), (56, .int .i64 x.i), (69, sl x.bt x.m), (70, .int .i64 x.m), (71, .int .i64 x.j)]
def ab0 : AB := ⟨0, 0, 0, 0, 0, 0, 0, 0, .slice none 0 0⟩
def la3 : List KI := ((Ly.run cxL 6 [(0, true)] (atSt Try.f14 la2 none 1 (slots 156 (t2L ab0)) H0)).st lvD).top.k
def t3L (x : AB) : List (Nat × Value) := [(0, sls 0 x.k), (6, sl x.bo x.k), (7, aV x.k x.ba), (8, x.w), (9, .int .i64 x.i), (55, .int .i64 x.k), (56, .int .i64 x.i), (69, sl x.bt x.m), (70, .int .i64 x.m), (71, .int .i64 x.j), (75, aV x.k x.ba), (76, .int .i64 x.v), (79, .pointer (some ⟨x.ba, 0 + x.v.toNat * 1, none⟩))]
theorem st3 (x : AB) (H : Heap) : haltF [0, 6, 7, 8, 9, 55, 56, 69, 70, 71, 75, 76, 79] lvD (Ly.run cxL 6 [(0, true)] (atSt Try.f14 la2 none 1 (slots 156 (t2L x)) H)) = (true, [(ixB x.k x.v, true)], true, (Try.f14, la3, none, 1), slots 156 (t3L x), H) := by kernel_rfl
end Go.Proofs.Ytdjmpilegommlaa
namespace Go.Proofs.Ytdjmpilegommlaa
open Go Go.Ly Go.RowKit
def s3 (x : AB) (H : Heap) : St := atSt Try.f14 la3 none 1 (slots 156 (t3L x)) H
theorem st80 (x : AB) (H : Heap) : evAt cxL.toEnv (s3 x H) = some (evLoad cxL.toEnv H 26 (.pointer (some ⟨x.ba, 0 + x.v.toNat * 1, none⟩))) := by kernel_rfl
def la4 : List KI := (behind (s3 ab0 H0) undef H0).top.k
def t4L (x : AB) (r : Value) : List (Nat × Value) := [(0, sls 0 x.k), (6, sl x.bo x.k), (7, aV x.k x.ba), (8, x.w), (9, .int .i64 x.i), (55, .int .i64 x.k), (56, .int .i64 x.i), (69, sl x.bt x.m), (70, .int .i64 x.m), (71, .int .i64 x.j), (75, aV x.k x.ba), (76, .int .i64 x.v), (80, r)]
theorem st4 (x : AB) (r : Value) (H : Heap) : haltF [0, 6, 7, 8, 9, 55, 56, 69, 70, 71, 75, 76, 80] lvD (Ly.run cxL 0 [] (behind (s3 x H) r H)) = (true, [], true, (Try.f14, la4, none, 1), slots 156 (t4L x r), H) := by kernel_rfl
def i4L (i : Int) (r : Value) : List (Nat × Value) := [(0, tokV 0), (6, tokV 6), (7, tokV 7), (8, tokV 8), (9, .int .i64 i), (55, tokV 55), (56, tokV 56), (69, tokV 69), (70, tokV 70), (71, tokV 71), (75, tokV 75), (76, tokV 76), (80, r)]
def i5L (i : Int) (r : Value) : List (Nat × Value) := [(0, tokV 0), (6, tokV 6), (7, tokV 7), (8, tokV 8), (9, .int .i64 i), (55, tokV 55), (56, tokV 56), (69, tokV 69), (70, tokV 70), (71, tokV 71), (75, tokV 75), (76, tokV 76), (83, r)]
def r4 (p : Path) (i : Int) (r : Value) (os : List (Option LO)) : RO := Ly.run cxL 3 p (mkSt Try.f14 la4 none 0 (slots 156 (i4L i r)) os)
def la5 : List KI := ((r4 [] 0 (.slice none 0 0) []).st lvD).top.k
def kp5 : List Nat := [0, 6, 7, 8, 9, 55, 56, 69, 70, 71, 75, 76, 83]
def oneL (i : Int) : LO := .fn 1 (lstG 1 1 [.int .i64 i]) 1 3
def addL (g : Nat → Int) (q : Nat) (i : Int) : LO := .fn 1 (joinG q (fun e _ => .int .i64 (g (0 + e))) (lstG 1 1 [.int .i64 i])) (q + 1) 3
def apT (q : Nat) : Bool := Nat.ble (0 + q) q && ((Nat.beq q q && true) && (Nat.ble 1 q && Nat.ble (q + 1) 4294967296))
theorem sp1 (i : Int) : headAt kp5 [1] lvD (r4 [] i (.slice none 0 0) []) = (true, [], true, (Try.f14, la5, none, 0), slots 156 (i5L i (sl 0 1)), [some (oneL i)]) := by kernel_rfl
theorem spb1 (i : Int) : liftB [1] [] [some (oneL i)] 2 lvD (r4 [] i (.slice none 0 0) []) = true := by kernel_rfl
theorem sp2 (g : Nat → Int) (q : Nat) (i : Int) : headAt kp5 [2] lvD (r4 [(0, true)] i (sl 0 q) [some (inL g q)]) = (true, [(apT q, true)], true, (Try.f14, la5, none, 0), slots 156 (i5L i (sl 0 (q + 1))), [some (addL g q i)]) := by kernel_rfl
theorem spb2 (g : Nat → Int) (q : Nat) (i : Int) : liftB [2] [some (inL g q)] [some (addL g q i)] 3 lvD (r4 [(0, true)] i (sl 0 q) [some (inL g q)]) = true := by kernel_rfl
def t5L (x : AB) (r : Value) : List (Nat × Value) := [(0, sls 0 x.k), (6, sl x.bo x.k), (7, aV x.k x.ba), (8, x.w), (9, .int .i64 x.i), (55, .int .i64 x.k), (56, .int .i64 x.i), (69, sl x.bt x.m), (70, .int .i64 x.m), (71, .int .i64 x.j), (75, aV x.k x.ba), (76, .int .i64 x.v), (83, r)]
def la6 : List KI := ((Ly.run cxL 1 [(0, true)] (atSt Try.f14 la5 none 1 (slots 156 (t5L ab0 undef)) H0)).st lvD).top.k
def t6L (x : AB) (r : Value) : List (Nat × Value) := [(0, sls 0 x.k), (6, sl x.bo x.k), (7, aV x.k x.ba), (8, x.w), (9, .int .i64 x.i), (55, .int .i64 x.k), (56, .int .i64 x.i), (69, sl x.bt x.m), (70, .int .i64 x.m), (71, .int .i64 x.j), (83, r), (84, .pointer (some ⟨x.ba, 0 + x.v.toNat * 1, none⟩))]
theorem st6 (x : AB) (r : Value) (H : Heap) : haltF [0, 6, 7, 8, 9, 55, 56, 69, 70, 71, 83, 84] lvD (Ly.run cxL 1 [(0, true)] (atSt Try.f14 la5 none 1 (slots 156 (t5L x r)) H)) = (true, [(ixB x.k x.v, true)], true, (Try.f14, la6, none, 1), slots 156 (t6L x r), H) := by kernel_rfl
def s6 (x : AB) (r : Value) (H : Heap) : St := atSt Try.f14 la6 none 1 (slots 156 (t6L x r)) H
theorem stS (x : AB) (r : Value) (H : Heap) : evAt cxL.toEnv (s6 x r H) = some (evStore cxL.toEnv H 26 (.pointer (some ⟨x.ba, 0 + x.v.toNat * 1, none⟩)) r) := by kernel_rfl
def tIL (x : AB) : List (Nat × Value) := [(0, sls 0 x.k), (6, sl x.bo x.k), (7, aV x.k x.ba), (8, x.w), (9, .int .i64 x.i), (55, .int .i64 x.k), (56, .int .i64 x.i), (69, sl x.bt x.m), (70, .int .i64 x.m), (71, .int .i64 x.j)]
end Go.Proofs.Ytdjmpilegommlaa
namespace Go.Proofs.Ytdjmpilegommlaa
open Go Go.Ly Go.RowKit
theorem stI (x : AB) (r : Value) (H H' : Heap) : haltF [0, 6, 7, 8, 9, 55, 56, 69, 70, 71] lvD (Ly.run cxL 7 [] (behind (s6 x r H) undef H')) = (true, [], true, (Try.f14, laI, none, 1), slots 156 (tIL { x with j := IntKind.i64.wrap (x.j + 1) }), H') := by kernel_rfl
def x1L (i m j : Int) (w : Value) : List (Nat × Value) := [(0, tokV 0), (6, tokV 6), (7, tokV 7), (8, w), (9, .int .i64 i), (55, tokV 55), (56, .int .i64 i), (70, .int .i64 m), (71, .int .i64 j)]
def x2L (i : Int) (w : Value) : List (Nat × Value) := [(0, tokV 0), (6, tokV 6), (7, tokV 7), (8, w), (55, tokV 55), (56, .int .i64 (IntKind.i64.wrap (i + 1)))]
def rX (p : Path) (i m j : Int) (w : Value) (os : List (Option LO)) : RO := Ly.run cxL 20 p (mkSt Try.f14 laI none 0 (slots 156 (x1L i m j w)) os)
theorem sx1 (i m j : Int) : headAt [0, 6, 7, 8, 55, 56] [1] lvD (rX [(0, false)] i m j (.slice none 0 0) []) = (true, [(decide (j < m), false)], true, (Try.f14, laK, none, 0), slots 156 (x2L i (sl 0 1)), [some (oneL i)]) := by kernel_rfl
theorem sxb1 (i m j : Int) : liftB [1] [] [some (oneL i)] 2 lvD (rX [(0, false)] i m j (.slice none 0 0) []) = true := by kernel_rfl
theorem sx2 (i m j : Int) (g : Nat → Int) (q : Nat) : headAt [0, 6, 7, 8, 55, 56] [2] lvD (rX [(0, false), (0, true)] i m j (sl 0 q) [some (inL g q)]) = (true, [(decide (j < m), false), (apT q, true)], true, (Try.f14, laK, none, 0), slots 156 (x2L i (sl 0 (q + 1))), [some (addL g q i)]) := by kernel_rfl
theorem sxb2 (i m j : Int) (g : Nat → Int) (q : Nat) : liftB [2] [some (inL g q)] [some (addL g q i)] 3 lvD (rX [(0, false), (0, true)] i m j (sl 0 q) [some (inL g q)]) = true := by kernel_rfl
theorem f14n : Try.f14.ntmps = 156 := by kernel_rfl
theorem anyI (σ : Nat → Nat) (i : Nat) : SlotI σ i anyV anyV := .inl rfl
theorem anyO (old : List Value) (σ : Nat → Nat) (i : Nat) : SlotO old σ anyV anyV := .inl rfl
def lg (l : List Nat) : Nat → Int := fun e => (((l[e]?).getD 0 : Nat) : Int)
theorem one_eq (i : Nat) : LOeq (oneL i) (inL (lg [i]) 1) := by
  refine .inr ⟨1, _, _, 1, 3, rfl, rfl, fun e j he hj => ?_⟩
  obtain rfl : e = 0 := by omega
  obtain rfl : j = 0 := by omega
  rfl
theorem add_eq (l : List Nat) (i : Nat) : LOeq (addL (lg l) l.length i) (inL (lg (l ++ [i])) (l.length + 1)) := by
  refine .inr ⟨1, _, _, l.length + 1, 3, rfl, rfl, fun e j he hj => ?_⟩
  obtain rfl : j = 0 := by omega
  unfold joinG; rw [vif_eq]
  by_cases h : e < l.length
  · rw [show Nat.blt e l.length = true by rw [Nat.blt_eq]; exact h]
    simp only [cond_true, Nat.zero_add, lg]
    rw [List.getElem?_append_left h]
  · have : e = l.length := by omega
    subst this
    rw [show Nat.blt l.length l.length = false from Bool.eq_false_iff.2 fun h => by rw [Nat.blt_eq] at h; omega]
    simp only [cond_false, lg, Nat.sub_self]
    rw [List.getElem?_append_right (Nat.le_refl _), Nat.sub_self]
    rfl
theorem apT_true {q : Nat} (h1 : 1 ≤ q) (h2 : q ≤ 100000000) : apT q = true := by
  unfold apT
  rw [show Nat.ble (0 + q) q = true by rw [Nat.ble_eq]; omega, show Nat.ble 1 q = true by rw [Nat.ble_eq]; exact h1, show Nat.ble (q + 1) 4294967296 = true by rw [Nat.ble_eq]; omega, Nat.beq_refl]
  rfl
theorem upd_eq (g : Nat → Int) (i k : Nat) : LOeq (inU g i k) (inL (fun e => bif Nat.beq e i then 31 else g e) k) := by
  refine .inr ⟨1, _, _, k, 3, rfl, rfl, fun e j he hj => ?_⟩
  obtain rfl : j = 0 := by omega
  have : 0 + ((i : Int)).toNat * 1 = i := by omega
  rw [this]; rfl
section
variable {Q : Value → Heap → Prop} {H : Heap}
theorem MWp.eqO {fn : Func} {k : List KI} {dst : Option Tmp} {base : Nat} {vals : List Value} {b : Nat} {o o' : LO} (hg : H.get b = some o) (ho : o.own = true) (he : LOeq o o') (hb : b < big)
    (hs : MWp Try.prog (atSt fn k dst base vals (H.put b o')) Q) : MWp Try.prog (atSt fn k dst base vals H) Q :=
  MWp.objW (S := atSt fn k dst base vals H) hg ho (by rw [he.own]; exact ho) hb (fun ρ x h => he.or h) hs
theorem put_get {b : Nat} (hb : b < big) (o : LO) (i : Nat) : (H.put b o).get i = if i = b then some o else H.get i := Tr.get_set _ _ _ hb i
end
end Go.Proofs.Ytdjmpilegommlaa
namespace Go.Proofs.Ytdjmpilegommlaa
open Go Go.Ly Go.RowKit
def hAL (k bo ba : Nat) (w : Value) (i : Int) : List (Nat × Value) := [(0, sls 0 k), (6, sl bo k), (7, aV k ba), (8, w), (55, .int .i64 k), (56, .int .i64 i)]
def iAL (k bo ba : Nat) (w : Value) (i : Int) (t : Value) (m : Nat) (j : Int) : List (Nat × Value) := [(0, sls 0 k), (6, sl bo k), (7, aV k ba), (8, w), (9, .int .i64 i), (55, .int .i64 k), (56, .int .i64 i), (69, t), (70, .int .i64 m), (71, .int .i64 j)]
theorem tokO {p : Nat} {l : List (Nat × Value)} {σ : Nat → Nat} {u : Value} (hp : p < 156) (h : u = lookS l p) : SlotO (slots 156 l) σ (tokV p) u := .inr (.inl ⟨p, rfl, by rw [slots_at hp]; exact h⟩)
theorem valO {old : List Value} {σ : Nat → Nat} {v u : Value} (h0 : noTok v = true) (h : u = renV σ v) : SlotO old σ v u := .inr (.inr ⟨h0, h⟩)
theorem tokI {σ : Nat → Nat} {i : Nat} {u : Value} : SlotI σ i (tokV i) u := .inr (.inl rfl)
theorem valI {σ : Nat → Nat} {i : Nat} {v u : Value} (h0 : noTok v = true) (h : u = renV σ v) : SlotI σ i v u := .inr (.inr ⟨h0, h⟩)
theorem pC {R : Nat → Value → Value → Prop} {i : Nat} {v u : Value} {r s : List (Nat × Value)} (h : R i v u) (hr : SlotsR R r s) : SlotsR R ((i, v) :: r) ((i, u) :: s) := ⟨rfl, h, hr⟩
theorem pN {R : Nat → Value → Value → Prop} : SlotsR R [] [] := trivial
theorem sl14 (l : List (Nat × Value)) : (slots 156 l).length = Try.f14.ntmps := by rw [f14n]; exact slots_len 156 l
theorem liftL {Q : Value → Heap → Prop} {k k' : List KI} {b0 b1 : Nat} {li lo lB lB' : List (Nat × Value)} {os os' : List (Option LO)} {t : List (Bool × Bool)} {H : Heap} (keep L L' : List Nat) (nx n : Nat) (p : Path)
    (h : headAt keep L' lvD (Ly.run cxL n p (mkSt Try.f14 k none b0 (slots 156 li) os)) = (true, t, true, (Try.f14, k', none, b1), slots 156 lo, os')) (hB : liftB L' os os' nx lvD (Ly.run cxL n p (mkSt Try.f14 k none b0 (slots 156 li) os)) = true) (ht : trusted t)
    (hlen : L.length = os.length) (hnd : L.Nodup) (hl : H.lock = 0) (hbig : H.next + nx < big)
    (hobj : ∀ (i b : Nat), L[i]? = some b → ∃ x, H.get b = some x ∧ ∀ o, (os[i]?).getD none = some o → x = renO (ext (sg L) os.length H.next) o)
    (hin : SlotsR (SlotI (ext (sg L) os.length H.next)) li lB)
    (hout : SlotsR (fun _ => SlotO (slots 156 lB) (fun j => ext (sg L) os.length H.next (sg L' j))) lo lB')
    (hs : ∀ K, K.lock = 0 → K.next = H.next + (nx - os.length) → (∀ i, i < H.next → i ∉ L → K.get i = H.get i) → (L'.map fun b => K.get (ext (sg L) os.length H.next b)) = os'.map (Option.map (renO fun j => ext (sg L) os.length H.next (sg L' j))) → MWp Try.prog (atSt Try.f14 k' none 1 (slots 156 lB') K) Q) :
    MWp Try.prog (atSt Try.f14 k none 1 (slots 156 lB) H) Q :=
  MWp.lift cxL_ok keep L L' nx n p h hB ht hlen hnd (sl14 _) (sl14 _) (sl14 _) (by rw [f14n]; decide) hl hbig hobj (fun i hi => slots_rel (anyI _) hin i (by rw [← f14n]; exact hi)) (fun i hi => slots_rel (R := fun _ => SlotO _ _) (anyO _ _) hout i (by rw [← f14n]; exact hi)) hs
section
variable {Q : Value → Heap → Prop} {H : Heap} {a o n g : Nat → Int} {k bo ba : Nat} {w : Value} {i : Nat}
def outA (g : Nat → Int) (i : Nat) (b : Bool) : Nat → Int := fun e => bif b && Nat.beq e i then 31 else g e
def toV (bt m : Nat) : Value := bif Nat.beq m 0 then .slice none 0 0 else sl bt m
theorem stepA1 (hi : i < k) (hk : k ≤ 100) (ho : ∀ e, e < k → inb (o e) = true) (hl : H.lock = 0) (h0 : H.get 0 = some (ndL a o n k)) (hbo : H.get bo = some (inL g k)) (hbo0 : bo ≠ 0) (hbig : H.next + 3 < big)
    (hs : ∀ K, K.lock = 0 → K.next = H.next + 1 → (∀ j, j < H.next → j ≠ 0 → j ≠ bo → K.get j = H.get j) → K.get 0 = some (ndL a o n k) → K.get bo = some (inL (outA g i (nxS a o n k i).2) k) →
      (nxM a o n k i ≠ 0 → K.get H.next = some (inL (nxG a o n k i) (nxM a o n k i))) → MWp Try.prog (atSt Try.f14 laI none 1 (slots 156 (iAL k bo ba w i (toV H.next (nxM a o n k i)) (nxM a o n k i) 0)) K) Q) :
    MWp Try.prog (atSt Try.f14 laK none 1 (slots 156 (hAL k bo ba w i)) H) Q := by
  obtain ⟨i1, i2, i3, i4⟩ := ix_tests hi
  have i5 : Nat.blt (0 + ((i : Int)).toNat * 1) k = true := by rw [Nat.blt_eq]; omega
  have hr : rowT3 a o n k = true := by
    unfold rowT3
    rw [show (fun e x => ndG a o n (0 + e) x) = ndG a o n by funext e x; simp, okN_nd _ _ _ (by omega), sh_eq, List.all_eq_true.2 (fun e he => ho e (List.mem_range.1 he))]; simp
  refine MWp.ltn (fun (hlt : ∀ i o, H.get i = some o → i < H.next) (hsm : H.next < big) => ?_)
  have hbl := hlt _ _ hbo
  have h0l := hlt _ _ h0
  cases hz : Nat.beq (nxM a o n k i) 0 with
  | false =>
    have hm0 : nxM a o n k i ≠ 0 := Nat.ne_of_beq_eq_false hz
    have ht : toV H.next (nxM a o n k i) = sl H.next (nxM a o n k i) := by unfold toV; rw [hz]; rfl
    rw [ht] at hs
    cases hopen : (nxS a o n k i).2 with
    | false =>
      refine liftL (lB' := iAL k bo ba w i (sl H.next (nxM a o n k i)) (nxM a o n k i) 0) [0, 6, 7, 8, 9, 55, 56, 69, 70, 71] [0, bo] [0, 1, 2] 3 41 pA1 (sa1 a o n g k i) (sb1 a o n g k i) (by simp only [a1T, trusted, i1, hr, hz, hopen, i2, i5, and_self]) rfl (by simp [hbo0.symm]) hl hbig (fun i b hi => by
      rcases i with _ | _ | i
      · simp at hi; subst hi; exact ⟨_, h0, fun o ho => by cases ho; rfl⟩
      · simp at hi; subst hi; exact ⟨_, hbo, fun o ho => by cases ho; rfl⟩
      · simp at hi)
        (pC (valI rfl rfl) (pC (valI rfl rfl) (pC tokI (pC tokI (pC (valI rfl rfl) (pC (valI rfl rfl) (pN))))))) (pC (valO rfl rfl) (pC (valO rfl rfl) (pC (tokO (by decide) rfl) (pC (tokO (by decide) rfl) (pC (valO rfl rfl) (pC (valO rfl rfl) (pC (valO rfl rfl) (pC (valO rfl rfl) (pC (valO rfl rfl) (pC (valO rfl rfl) (pN))))))))))) ?_
      intro K kl kn kold kb
      obtain ⟨k0, kb⟩ := List.cons.inj kb
      obtain ⟨k1, kb⟩ := List.cons.inj kb
      obtain ⟨k2, kb⟩ := List.cons.inj kb
      have k2 : K.get H.next = some (inL (nxG a o n k i) (nxM a o n k i)) := k2
      have k0 : K.get 0 = some (ndL a o n k) := k0
      have kold : ∀ j, j < H.next → j ≠ 0 → j ≠ bo → K.get j = H.get j := fun j h1 h2 h3 => kold j h1 (by simp [h2, h3])
      have kn : K.next = H.next + 1 := kn
      have k1 : K.get bo = some (inL g k) := k1
      have e : outA g i false = g := by funext e; rfl
      rw [hopen, e] at hs
      exact hs K kl kn kold k0 k1 (fun _ => k2)
    | true =>
      refine liftL (lB' := iAL k bo ba w i (sl H.next (nxM a o n k i)) (nxM a o n k i) 0) [0, 6, 7, 8, 9, 55, 56, 69, 70, 71] [0, bo] [0, 1, 2] 3 46 pA2 (sa2 a o n g k i) (sb2 a o n g k i) (by simp only [a1T, trusted, i1, hr, hz, hopen, i2, i5, and_self]) rfl (by simp [hbo0.symm]) hl hbig (fun i b hi => by
      rcases i with _ | _ | i
      · simp at hi; subst hi; exact ⟨_, h0, fun o ho => by cases ho; rfl⟩
      · simp at hi; subst hi; exact ⟨_, hbo, fun o ho => by cases ho; rfl⟩
      · simp at hi)
        (pC (valI rfl rfl) (pC (valI rfl rfl) (pC tokI (pC tokI (pC (valI rfl rfl) (pC (valI rfl rfl) (pN))))))) (pC (valO rfl rfl) (pC (valO rfl rfl) (pC (tokO (by decide) rfl) (pC (tokO (by decide) rfl) (pC (valO rfl rfl) (pC (valO rfl rfl) (pC (valO rfl rfl) (pC (valO rfl rfl) (pC (valO rfl rfl) (pC (valO rfl rfl) (pN))))))))))) ?_
      intro K kl kn kold kb
      obtain ⟨k0, kb⟩ := List.cons.inj kb
      obtain ⟨k1, kb⟩ := List.cons.inj kb
      obtain ⟨k2, kb⟩ := List.cons.inj kb
      have k2 : K.get H.next = some (inL (nxG a o n k i) (nxM a o n k i)) := k2
      have k0 : K.get 0 = some (ndL a o n k) := k0
      have kold : ∀ j, j < H.next → j ≠ 0 → j ≠ bo → K.get j = H.get j := fun j h1 h2 h3 => kold j h1 (by simp [h2, h3])
      have kn : K.next = H.next + 1 := kn
      have k1 : K.get bo = some (inU g i k) := k1
      have e : (fun e => bif Nat.beq e i then 31 else g e) = outA g i true := by funext e; rfl
      rw [hopen] at hs
      have hu := upd_eq g i k
      rw [e] at hu
      refine MWp.eqO k1 rfl hu (by omega) ?_
      have pg := fun o j => put_get (H := K) (show bo < big by omega) o j
      refine hs _ kl kn (fun j h1 h2 h3 => by rw [pg, if_neg h3]; exact kold j h1 h2 h3) (by rw [pg, if_neg hbo0.symm]; exact k0) (by rw [pg, if_pos rfl]) (fun _ => by rw [pg, if_neg (by omega)]; exact k2)
  | true =>
    have hm0 : nxM a o n k i = 0 := Nat.eq_of_beq_eq_true hz
    have ht : toV H.next (nxM a o n k i) = .slice none 0 0 := by unfold toV; rw [hz]; rfl
    rw [ht] at hs
    rw [show ((nxM a o n k i : Nat)) = 0 from hm0] at hs
    cases hopen : (nxS a o n k i).2 with
    | false =>
      refine liftL (lB' := iAL k bo ba w i (.slice none 0 0) (0) 0) [0, 6, 7, 8, 9, 55, 56, 69, 70, 71] [0, bo] [0, 1] 3 41 pA3 (sa3 a o n g k i) (sb3 a o n g k i) (by simp only [a1T, trusted, i1, hr, hz, hopen, i2, i5, and_self]) rfl (by simp [hbo0.symm]) hl hbig (fun i b hi => by
      rcases i with _ | _ | i
      · simp at hi; subst hi; exact ⟨_, h0, fun o ho => by cases ho; rfl⟩
      · simp at hi; subst hi; exact ⟨_, hbo, fun o ho => by cases ho; rfl⟩
      · simp at hi)
        (pC (valI rfl rfl) (pC (valI rfl rfl) (pC tokI (pC tokI (pC (valI rfl rfl) (pC (valI rfl rfl) (pN))))))) (pC (valO rfl rfl) (pC (valO rfl rfl) (pC (tokO (by decide) rfl) (pC (tokO (by decide) rfl) (pC (valO rfl rfl) (pC (valO rfl rfl) (pC (valO rfl rfl) (pC (valO rfl rfl) (pC (valO rfl rfl) (pC (valO rfl rfl) (pN))))))))))) ?_
      intro K kl kn kold kb
      obtain ⟨k0, kb⟩ := List.cons.inj kb
      obtain ⟨k1, kb⟩ := List.cons.inj kb
      have k0 : K.get 0 = some (ndL a o n k) := k0
      have kold : ∀ j, j < H.next → j ≠ 0 → j ≠ bo → K.get j = H.get j := fun j h1 h2 h3 => kold j h1 (by simp [h2, h3])
      have kn : K.next = H.next + 1 := kn
      have k1 : K.get bo = some (inL g k) := k1
      have e : outA g i false = g := by funext e; rfl
      rw [hopen, e] at hs
      exact hs K kl kn kold k0 k1 (fun h => absurd rfl h)
    | true =>
      refine liftL (lB' := iAL k bo ba w i (.slice none 0 0) (0) 0) [0, 6, 7, 8, 9, 55, 56, 69, 70, 71] [0, bo] [0, 1] 3 46 pA4 (sa4 a o n g k i) (sb4 a o n g k i) (by simp only [a1T, trusted, i1, hr, hz, hopen, i2, i5, and_self]) rfl (by simp [hbo0.symm]) hl hbig (fun i b hi => by
      rcases i with _ | _ | i
      · simp at hi; subst hi; exact ⟨_, h0, fun o ho => by cases ho; rfl⟩
      · simp at hi; subst hi; exact ⟨_, hbo, fun o ho => by cases ho; rfl⟩
      · simp at hi)
        (pC (valI rfl rfl) (pC (valI rfl rfl) (pC tokI (pC tokI (pC (valI rfl rfl) (pC (valI rfl rfl) (pN))))))) (pC (valO rfl rfl) (pC (valO rfl rfl) (pC (tokO (by decide) rfl) (pC (tokO (by decide) rfl) (pC (valO rfl rfl) (pC (valO rfl rfl) (pC (valO rfl rfl) (pC (valO rfl rfl) (pC (valO rfl rfl) (pC (valO rfl rfl) (pN))))))))))) ?_
      intro K kl kn kold kb
      obtain ⟨k0, kb⟩ := List.cons.inj kb
      obtain ⟨k1, kb⟩ := List.cons.inj kb
      have k0 : K.get 0 = some (ndL a o n k) := k0
      have kold : ∀ j, j < H.next → j ≠ 0 → j ≠ bo → K.get j = H.get j := fun j h1 h2 h3 => kold j h1 (by simp [h2, h3])
      have kn : K.next = H.next + 1 := kn
      have k1 : K.get bo = some (inU g i k) := k1
      have e : (fun e => bif Nat.beq e i then 31 else g e) = outA g i true := by funext e; rfl
      rw [hopen] at hs
      have hu := upd_eq g i k
      rw [e] at hu
      refine MWp.eqO k1 rfl hu (by omega) ?_
      have pg := fun o j => put_get (H := K) (show bo < big by omega) o j
      refine hs _ kl kn (fun j h1 h2 h3 => by rw [pg, if_neg h3]; exact kold j h1 h2 h3) (by rw [pg, if_neg hbo0.symm]; exact k0) (by rw [pg, if_pos rfl]) (fun h => absurd rfl h)
end
end Go.Proofs.Ytdjmpilegommlaa
namespace Go.Proofs.Ytdjmpilegommlaa
open Go Go.Ly Go.RowKit
theorem lf_spec (a : Nat → Int) (x : Int) : ∀ (d i : Nat), 0 ≤ ixF a x d i → ∃ e : Nat, ixF a x d i = e ∧ i ≤ e ∧ e < i + d ∧ a e = x
  | 0, i, h => by simp [ixF] at h
  | d + 1, i, h => by
    unfold ixF at h ⊢
    cases hb : (a i == x) with
    | true => simp only [cond_true]; exact ⟨i, rfl, by omega, by omega, by simpa using hb⟩
    | false =>
      rw [hb] at h
      simp only [cond_false] at h ⊢
      obtain ⟨e, h1, h2, h3, h4⟩ := lf_spec a x d (i + 1) h
      exact ⟨e, h1, by omega, by omega, h4⟩
theorem lat_lt {k : Nat} {a : Nat → Int} {x : Int} (h : 0 ≤ atN k a x) : atN k a x < k := by
  obtain ⟨e, h1, _, h3, h4⟩ := lf_spec a x k 0 h
  have : atN k a x = e := h1
  rw [this]; omega
theorem bifL {α : Type} {P : α → Prop} (b : Bool) {x y : α} (hx : b = true → P x) (hy : b = false → P y) : P (bif b then x else y) := by cases b; exact hy rfl; exact hx rfl
def NxP (k : Nat) (q : List Int × Bool) : Prop := q.1.length ≤ 2 ∧ (∀ x ∈ q.1, 0 ≤ x ∧ x < k) ∧ q.1.Nodup
theorem nxl_one {k : Nat} {v : Int} {r : Bool} (h : 0 ≤ v → v < k) : NxP k (nxOne v r) := by
  refine bifL (P := NxP k) _ (fun _ => ⟨by simp, by simp, by simp⟩) fun h1 => ⟨by simp, ?_, by simp⟩
  have h1 : 0 ≤ v := by have := of_decide_eq_false h1; omega
  intro x hx; simp at hx; subst hx; exact ⟨h1, h h1⟩
theorem nxl_two {k : Nat} {u v : Int} {r : Bool} (hu : 0 ≤ u → u < k) (hv : 0 ≤ v → v < k) : NxP k (nxTwo u v r) := by
  refine bifL (P := NxP k) _ (fun _ => bifL (P := NxP k) _ (fun _ => ⟨by simp, by simp, by simp⟩) fun h1 => ⟨by simp, ?_, by simp⟩) (fun h0 => bifL (P := NxP k) _ (fun _ => ⟨by simp, ?_, by simp⟩) fun h1 =>
    bifL (P := NxP k) _ (fun h2 => ⟨by simp, ?_, ?_⟩) fun h2 => bifL (P := NxP k) _ (fun h3 => ⟨by simp, ?_, by simp⟩) fun h3 => ⟨by simp, ?_, ?_⟩)
  · have h1 : 0 ≤ v := by have := of_decide_eq_false h1; omega
    intro x hx; simp at hx; subst hx; exact ⟨h1, hv h1⟩
  all_goals have h0 : 0 ≤ u := by have := of_decide_eq_false h0; omega
  · intro x hx; simp at hx; subst hx; exact ⟨h0, hu h0⟩
  all_goals have h1 : 0 ≤ v := by have := of_decide_eq_false h1; omega
  · intro x hx; simp at hx; rcases hx with rfl | rfl
    · exact ⟨h1, hv h1⟩
    · exact ⟨h0, hu h0⟩
  · have := of_decide_eq_true h2; simp; omega
  · intro x hx; simp at hx; subst hx; exact ⟨h0, hu h0⟩
  · intro x hx; simp at hx; rcases hx with rfl | rfl
    · exact ⟨h0, hu h0⟩
    · exact ⟨h1, hv h1⟩
  · have h3 : v ≠ u := by simpa using h3
    simp; omega
theorem nxl_I {k : Nat} {a o n : Nat → Int} {i : Int} : NxP k (nxI k a o n i) := by
  have hN : 0 ≤ aN k a n i → aN k a n i < k := lat_lt
  have hR : 0 ≤ aR k a o i → aR k a o i < k := lat_lt
  have hB : 0 ≤ aB k a o i → aB k a o i < k := lat_lt
  exact bifL (P := NxP k) _ (fun _ => nxl_one hN) (fun _ => bifL (P := NxP k) _ (fun _ => nxl_one hR) (fun _ => bifL (P := NxP k) _ (fun _ => bifL (P := NxP k) _ (fun _ => nxl_one hN) (fun _ => ⟨by simp, by simp, by simp⟩))
    (fun _ => bifL (P := NxP k) _ (fun _ => nxl_two hN hB) (fun _ => nxl_one hB))))
theorem nxl_F (k : Nat) (a o n : Nat → Int) (i : Int) : NxP k (nxF k a o n i) :=
  bifL (P := NxP k) _ (fun _ => ⟨by simp, by simp, by simp⟩) (fun _ => nxl_I)
def toL (a o n : Nat → Int) (k i : Nat) : List Nat := (nxS a o n k i).1.map Int.toNat
def opL (a o n : Nat → Int) (k i : Nat) : Bool := (nxS a o n k i).2
theorem toL_len (a o n : Nat → Int) (k i : Nat) : (toL a o n k i).length = nxM a o n k i := by simp [toL, nxM]
theorem toL_two (a o n : Nat → Int) (k i : Nat) : (toL a o n k i).length ≤ 2 := by rw [toL_len]; exact (nxl_F k _ _ _ _).1
theorem toL_in {a o n : Nat → Int} {k i v : Nat} (h : v ∈ toL a o n k i) : v < k := by
  obtain ⟨x, hx, rfl⟩ := List.mem_map.1 h
  have := (nxl_F k _ _ _ _).2.1 x hx
  omega
theorem toL_g (a o n : Nat → Int) (k i : Nat) : nxG a o n k i = lg (toL a o n k i) := by
  funext e
  unfold nxG lg toL
  rw [List.getElem?_map]
  cases h : ((nxS a o n k i).1[e]?) with
  | none => rfl
  | some x =>
    have := (nxl_F k (sh a) (sh o) (sh n) i).2.1 x (List.mem_of_getElem? h)
    show x = ((x.toNat : Nat) : Int)
    omega
end Go.Proofs.Ytdjmpilegommlaa
namespace Go.Proofs.Ytdjmpilegommlaa
open Go Go.Ly Go.RowKit
def liV (b : Nat) (l : List Nat) : Value := bif l.isEmpty then .slice none 0 0 else sl b l.length
theorem liV_ne {b : Nat} {l : List Nat} (h : l ≠ []) : liV b l = sl b l.length := by cases l; exact absurd rfl h; rfl
def tA26 : TI := (cxL.ty.get 26).getD ⟨.slice 0, 0, none, 0, false⟩
theorem tA26g : cxL.ty.get 26 = some tA26 := by kernel_rfl
theorem tA26a : isAggD tA26.desc = false := by kernel_rfl
theorem tA26s : tA26.size = 1 := by kernel_rfl
section
variable {Q : Value → Heap → Prop} {H : Heap}
theorem stepSi {x : AB} {T : List Nat} {j v : Nat} (hj : j < T.length) (hv : T[j]? = some v) (hxm : x.m = T.length) (hxj : x.j = (j : Int)) (hl : H.lock = 0) (hT : H.get x.bt = some (inL (lg T) T.length)) (hbig : H.next + 1 < big)
    (hs : ∀ K, K.lock = 0 → K.next = H.next → (∀ b, b < H.next → K.get b = H.get b) → MWp Try.prog (atSt Try.f14 la2 none 1 (slots 156 (t2L { x with v := (v : Int) })) K) Q) :
    MWp Try.prog (atSt Try.f14 laI none 1 (slots 156 (tIL x)) H) Q := by
  obtain ⟨i1, i2, i3, i4⟩ := ix_tests hj
  have i5 : Nat.blt (0 + ((j : Int)).toNat * 1) T.length = true := by rw [Nat.blt_eq]; omega
  have hg : gA (lg T) (j : Int) = (v : Int) := by
    unfold gA lg; rw [show 0 + ((j : Int)).toNat * 1 = j by omega, hv]; rfl
  obtain ⟨k, bo, ba, bt, m, i, jj, vv, w⟩ := x
  obtain rfl : m = T.length := hxm
  obtain rfl : jj = (j : Int) := hxj
  refine liftL (lB' := t2L ⟨k, bo, ba, bt, T.length, i, j, gA (lg T) j, w⟩) [0, 6, 7, 8, 9, 13, 55, 56, 69, 70, 71] [bt] [0] 1 15 pI (si1 (lg T) T.length j) (sib (lg T) T.length j) (by simp only [trusted, i1, i2, i5, and_self]) rfl (by simp) hl hbig (fun i b hi => by
      rcases i with _ | i
      · simp at hi; subst hi; exact ⟨_, hT, fun o ho => by cases ho; rfl⟩
      · simp at hi) (pC tokI (pC tokI (pC tokI (pC tokI (pC tokI (pC tokI (pC tokI (pC (valI rfl rfl) (pC (valI rfl rfl) (pC (valI rfl rfl) (pN))))))))))) (pC (tokO (by decide) rfl) (pC (tokO (by decide) rfl) (pC (tokO (by decide) rfl) (pC (tokO (by decide) rfl) (pC (tokO (by decide) rfl) (pC (valO rfl rfl) (pC (tokO (by decide) rfl) (pC (tokO (by decide) rfl) (pC (valO rfl rfl) (pC (valO rfl rfl) (pC (valO rfl rfl) (pN)))))))))))) ?_
  rw [hg]
  intro K kl kn kold kb
  obtain ⟨k0, kb⟩ := List.cons.inj kb
  have k0 : K.get bt = some (inL (lg T) T.length) := k0
  refine hs K kl kn fun b hb => ?_
  by_cases h : b = bt
  · subst h; rw [k0]; exact hT.symm
  · exact kold b hb (by simp [h])
theorem stepAp {x : AB} {b : Nat} {l : List Nat} {i : Nat} (hxi : x.i = (i : Int)) (hl : H.lock = 0) (hb : l ≠ [] → H.get b = some (inL (lg l) l.length)) (hlen : l.length ≤ 1000000) (hbig : H.next + 3 < big)
    (hs : ∀ K, K.lock = 0 → K.next = H.next + 2 → (∀ e, e < H.next → e ≠ b → K.get e = H.get e) → K.get (H.next + 1) = some (inL (lg (l ++ [i])) (l.length + 1)) → MWp Try.prog (atSt Try.f14 la5 none 1 (slots 156 (t5L x (sl (H.next + 1) (l.length + 1)))) K) Q) :
    MWp Try.prog (atSt Try.f14 la4 none 1 (slots 156 (t4L x (liV b l))) H) Q := by
  obtain ⟨k, bo, ba, bt, m, xi, j, v, w⟩ := x
  obtain rfl : xi = (i : Int) := hxi
  have key : ∀ K : Heap, K.lock = 0 → K.next = H.next + 2 → (∀ e, e < H.next → e ≠ b → K.get e = H.get e) → ∀ o, K.get (H.next + 1) = some o → o.own = true → LOeq o (inL (lg (l ++ [i])) (l.length + 1)) →
      MWp Try.prog (atSt Try.f14 la5 none 1 (slots 156 (t5L ⟨k, bo, ba, bt, m, i, j, v, w⟩ (sl (H.next + 1) (l.length + 1)))) K) Q := by
    intro K kl kn kold o ko oo oe
    refine MWp.eqO ko oo oe (by omega) ?_
    have pg := fun o j => put_get (H := K) (show H.next + 1 < big by omega) o j
    exact hs _ kl kn (fun e h1 h2 => by rw [pg, if_neg (by omega)]; exact kold e h1 h2) (by rw [pg, if_pos rfl])
  cases hz : l with
  | nil =>
    subst hz
    refine liftL (lB' := t5L ⟨k, bo, ba, bt, m, i, j, v, w⟩ (sl (H.next + 1) 1)) kp5 [] [1] 2 3 [] (sp1 i) (spb1 i) trivial rfl (by simp) hl (by omega) (fun i b hi => by simp at hi) (pC tokI (pC tokI (pC tokI (pC tokI (pC (valI rfl rfl) (pC tokI (pC tokI (pC tokI (pC tokI (pC tokI (pC tokI (pC tokI (pC (valI rfl rfl) (pN)))))))))))))) (pC (tokO (by decide) rfl) (pC (tokO (by decide) rfl) (pC (tokO (by decide) rfl) (pC (tokO (by decide) rfl) (pC (valO rfl rfl) (pC (tokO (by decide) rfl) (pC (tokO (by decide) rfl) (pC (tokO (by decide) rfl) (pC (tokO (by decide) rfl) (pC (tokO (by decide) rfl) (pC (tokO (by decide) rfl) (pC (tokO (by decide) rfl) (pC (valO rfl rfl) (pN)))))))))))))) ?_
    intro K kl kn kold kb
    obtain ⟨k0, kb⟩ := List.cons.inj kb
    exact key K kl kn (fun e h1 _ => kold e h1 (by simp)) _ k0 rfl (one_eq i)
  | cons y l' =>
    have hne : l ≠ [] := by rw [hz]; simp
    have hp : 1 ≤ l.length := by rw [hz]; simp
    have hob := hb hne
    rw [← hz, liV_ne hne]
    refine liftL (lB' := t5L ⟨k, bo, ba, bt, m, i, j, v, w⟩ (sl (H.next + 1) (l.length + 1))) kp5 [b] [2] 3 3 [(0, true)] (sp2 (lg l) l.length i) (spb2 (lg l) l.length i) (by simp only [trusted, apT_true hp (show l.length ≤ 100000000 by omega), and_self]) rfl (by simp) hl hbig (fun i c hi => by
      rcases i with _ | i
      · simp at hi; subst hi; exact ⟨_, hob, fun o ho => by cases ho; rfl⟩
      · simp at hi) (pC tokI (pC tokI (pC tokI (pC tokI (pC (valI rfl rfl) (pC tokI (pC tokI (pC tokI (pC tokI (pC tokI (pC tokI (pC tokI (pC (valI rfl rfl) (pN)))))))))))))) (pC (tokO (by decide) rfl) (pC (tokO (by decide) rfl) (pC (tokO (by decide) rfl) (pC (tokO (by decide) rfl) (pC (valO rfl rfl) (pC (tokO (by decide) rfl) (pC (tokO (by decide) rfl) (pC (tokO (by decide) rfl) (pC (tokO (by decide) rfl) (pC (tokO (by decide) rfl) (pC (tokO (by decide) rfl) (pC (tokO (by decide) rfl) (pC (valO rfl rfl) (pN)))))))))))))) ?_
    intro K kl kn kold kb
    obtain ⟨k0, kb⟩ := List.cons.inj kb
    exact key K kl kn (fun e h1 h2 => kold e h1 (by simp [h2])) _ k0 rfl (add_eq l i)
theorem stepRow {x : AB} {T : List Nat} {c : List Value} {b j v i : Nat} {l : List Nat} (hk : x.k ≤ 1000) (hj : j < T.length) (hv : T[j]? = some v) (hvk : v < x.k) (hxm : x.m = T.length) (hxj : x.j = (j : Int)) (hxi : x.i = (i : Int)) (hl : H.lock = 0)
    (hT : H.get x.bt = some (inL (lg T) T.length)) (hc : H.get x.ba = some (.cells c 26)) (hck : c.length = x.k) (hcv : c[v]? = some (liV b l)) (hb : l ≠ [] → H.get b = some (inL (lg l) l.length)) (hba : b ≠ x.ba) (hlen : l.length ≤ 1000000) (hTl : T.length ≤ 1000000) (hbig : H.next + 4 < big)
    (hs : ∀ K, K.lock = 0 → K.next = H.next + 2 → (∀ e, e < H.next → e ≠ b → e ≠ x.ba → K.get e = H.get e) → K.get (H.next + 1) = some (inL (lg (l ++ [i])) (l.length + 1)) → K.get x.ba = some (.cells (c.set v (sl (H.next + 1) (l.length + 1))) 26) →
      MWp Try.prog (atSt Try.f14 laI none 1 (slots 156 (tIL { x with v := (v : Int), j := ((j + 1 : Nat) : Int) })) K) Q) :
    MWp Try.prog (atSt Try.f14 laI none 1 (slots 156 (tIL x)) H) Q := by
  refine MWp.ltn (fun (hlt : ∀ i o, H.get i = some o → i < H.next) (hsm : H.next < big) => ?_)
  have hal := hlt _ _ hc
  refine stepSi hj hv hxm hxj hl hT (by omega) ?_
  intro K kl kn kold
  obtain ⟨k, bo, ba, bt, m, xi, xj, vv, w⟩ := x
  obtain rfl : xj = (j : Int) := hxj
  have hal : ba < H.next := hal
  obtain ⟨i1, i2, i3, i4⟩ := ix_tests hvk
  have i6 : 0 + ((v : Int)).toNat * 1 = v := by omega
  have hcv' : c[0 + ((v : Int)).toNat * 1]? = some (liV b l) := by rw [i6]; exact hcv
  have kc : K.get ba = some (.cells c 26) := by rw [kold _ hal]; exact hc
  refine MWp.halted cxL_ok _ _ _ (st3 ⟨k, bo, ba, bt, m, xi, j, v, w⟩ K) (by simp only [trusted, i2, and_self]) ?_
  refine MWp.evA cxL_ok.toOk ((st80 ⟨k, bo, ba, bt, m, xi, j, v, w⟩ K).trans (congrArg some (evLoad_cells kc tA26g tA26a hcv'))) rfl ⟨rfl, rfl⟩ ?_
  refine MWp.halted cxL_ok _ _ _ (st4 ⟨k, bo, ba, bt, m, xi, j, v, w⟩ (liV b l) K) trivial ?_
  refine stepAp (x := ⟨k, bo, ba, bt, m, xi, j, v, w⟩) (i := i) hxi kl (fun h => ?_) hlen (by omega) ?_
  · have := hb h
    rw [kold b (hlt _ _ this)]; exact this
  intro M ml mn mold mr
  have mc : M.get ba = some (.cells c 26) := by rw [mold _ (by omega) hba.symm]; exact kc
  refine MWp.halted cxL_ok _ _ _ (st6 ⟨k, bo, ba, bt, m, xi, j, v, w⟩ _ M) (by simp only [trusted, i2, and_self]) ?_
  refine MWp.evA cxL_ok.toOk ((stS ⟨k, bo, ba, bt, m, xi, j, v, w⟩ (sl (K.next + 1) (l.length + 1)) M).trans (congrArg some (evStore_cells mc tA26g tA26s rfl rfl (by rw [i6, hck]; exact hvk) ml))) rfl ⟨rfl, rfl⟩ ?_
  refine MWp.halted cxL_ok _ _ _ (stI ⟨k, bo, ba, bt, m, xi, j, v, w⟩ _ M _) trivial ?_
  have hw : IntKind.i64.wrap ((j : Int) + 1) = ((j + 1 : Nat) : Int) := by rw [IntKind.wrap_i64]; omega
  rw [hw, i6, kn]
  rw [kn] at mr mn
  have pg := fun o j => put_get (H := M) (show ba < big by omega) o j
  refine hs _ ml mn (fun e h1 h2 h3 => ?_) ?_ ?_
  · rw [pg, if_neg h3, mold e (by omega) h2, kold e h1]
  · rw [pg, if_neg (by omega)]; exact mr
  · rw [pg, if_pos rfl]
end
end Go.Proofs.Ytdjmpilegommlaa
end
