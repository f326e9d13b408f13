/- Part 6 of the texts that the law needs, laid together. By program (pack.py). -/
import Derived.Test.YtdjmpilegommlaaPld
import Derived.Test.YtdjmpilegommlaaPle
import Derived.KernelRfl
import Derived.OpenShut
set_option linter.unusedVariables false
set_option linter.unusedSimpArgs false
noncomputable section
namespace Go.Proofs.Ytdjmpilegommlaa
open Go Go.Ly Go.RowKit
theorem or_tab : ((List.range 32).all fun x => (List.range 32).all fun y => bits .or .i64 (x : Nat) (y : Nat) == ((x ||| y : Nat) : Int)) = true := by kernel_rfl
theorem an_tab : ((List.range 32).all fun x => (List.range 32).all fun y => bits .andNot .i64 (x : Nat) (y : Nat) == ((x &&& (31 - y) : Nat) : Int)) = true := by kernel_rfl
theorem bits_or {x y : Nat} (hx : x < 32) (hy : y < 32) : bits .or .i64 (x : Int) (y : Int) = ((x ||| y : Nat) : Int) := by
  have := List.all_eq_true.1 (List.all_eq_true.1 or_tab x (List.mem_range.2 hx)) y (List.mem_range.2 hy)
  simpa using this
theorem bits_an {x y : Nat} (hx : x < 32) (hy : y < 32) : bits .andNot .i64 (x : Int) (y : Int) = ((x &&& (31 - y) : Nat) : Int) := by
  have := List.all_eq_true.1 (List.all_eq_true.1 an_tab x (List.mem_range.2 hx)) y (List.mem_range.2 hy)
  simpa using this
theorem us_tab : ((List.range 256).all fun x => (decide (0 ≤ usesT (x : Nat)) && decide (usesT (x : Nat) ≤ 31)) && (decide (0 ≤ setsT (x : Nat)) && decide (setsT (x : Nat) ≤ 31))) = true := by kernel_rfl
theorem us_in {x : Int} (h : inb x = true) : 0 ≤ usesT x ∧ usesT x ≤ 31 ∧ 0 ≤ setsT x ∧ setsT x ≤ 31 := by
  have h1 : 0 ≤ x ∧ x ≤ 255 := by simpa [inb] using h
  obtain ⟨n, rfl⟩ := Int.eq_ofNat_of_zero_le h1.1
  have := List.all_eq_true.1 us_tab n (List.mem_range.2 (by omega))
  simp only [Bool.and_eq_true, decide_eq_true_eq] at this
  exact ⟨this.1.1, this.1.2, this.2.1, this.2.2⟩
def Sub (x y : Nat) : Prop := x ||| y = y
theorem Sub.refl (x : Nat) : Sub x x := Nat.or_self x
theorem Sub.trans {x y z : Nat} (h1 : Sub x y) (h2 : Sub y z) : Sub x z := by
  unfold Sub at *; rw [← h2, ← Nat.or_assoc, h1]
theorem Sub.or {x y z : Nat} (h1 : Sub x z) (h2 : Sub y z) : Sub (x ||| y) z := by
  unfold Sub at *; rw [Nat.or_assoc, h2, h1]
theorem Sub.left (x y : Nat) : Sub x (x ||| y) := by unfold Sub; rw [← Nat.or_assoc, Nat.or_self]
theorem Sub.right (x y : Nat) : Sub y (x ||| y) := by unfold Sub; rw [Nat.or_comm x y]; exact Sub.left y x
theorem Sub.anti {x y : Nat} (h1 : Sub x y) (h2 : Sub y x) : x = y := by unfold Sub at *; rw [← h2, Nat.or_comm]; exact h1
theorem Sub.and {x y : Nat} (m : Nat) (h : Sub x y) : Sub (x &&& m) (y &&& m) := by unfold Sub at *; rw [← Nat.and_or_distrib_right, h]
theorem Sub.zero (y : Nat) : Sub 0 y := Nat.zero_or y
theorem or_lt {x y : Nat} (hx : x < 32) (hy : y < 32) : x ||| y < 32 := Nat.or_lt_two_pow (n := 5) hx hy
theorem and_lt {x : Nat} (y : Nat) (hx : x < 32) : x &&& y < 32 := Nat.lt_of_le_of_lt Nat.and_le_left hx
section
variable (us ss : Nat → Nat) (bs : Nat → Nat) (P : Nat → List Nat) (k : Nat)
def inN (h : Nat → Nat) (e : Nat) : Nat := us e ||| (h e &&& (31 - ss e))
structure Pre (h : Nat → Nat) : Prop where
  base : ∀ x, x < k → Sub (bs x) (h x)
  edge : ∀ e x, e < k → x ∈ P e → Sub (inN us ss h e) (h x)
structure Least (g : Nat → Nat) : Prop where
  pre : Pre us ss bs P k g
  least : ∀ h, Pre us ss bs P k h → ∀ x, x < k → Sub (g x) (h x)
  lt : ∀ e, g e < 32
def mu (g : Nat → Nat) : Nat → Nat
  | 0 => 0
  | i + 1 => mu g i + (31 - g i)
theorem mu_le {g g' : Nat → Nat} (h : ∀ e, g e ≤ g' e) : ∀ k, mu g' k ≤ mu g k
  | 0 => Nat.le_refl _
  | i + 1 => by have := mu_le h i; have := h i; simp only [mu]; omega
theorem mu_lt {g g' : Nat → Nat} (h : ∀ e, g e ≤ g' e) (hl : ∀ e, g' e < 32) {x : Nat} (hx : g x < g' x) : ∀ k, x < k → mu g' k + 1 ≤ mu g k
  | 0, h => by omega
  | i + 1, hk => by
    simp only [mu]
    by_cases he : x = i
    · subst he
      have := mu_le h x; have := hl x; omega
    · have := mu_lt h hl hx i (by omega); have := h i; omega
def pV (v : Nat) (s : (Nat → Nat) × List Nat) (x : Nat) : (Nat → Nat) × List Nat :=
  if s.1 x ||| v = s.1 x then s else (fun e => if e = x then s.1 x ||| v else s.1 e, s.2 ++ [x])
structure FI (g : Nat → Nat) (ws : List Nat) (v : Nat) (D : Nat → Prop) (s : (Nat → Nat) × List Nat) : Prop where
  up : ∀ e, Sub (g e) (s.1 e)
  lt : ∀ e, s.1 e < 32
  old : ∀ x ∈ ws, x ∈ s.2
  wk : ∀ x ∈ s.2, x < k
  dn : ∀ x, D x → Sub v (s.1 x)
  eq : ∀ e, e ∉ s.2 → s.1 e = g e
  le : ∀ h, Pre us ss bs P k h → ∀ x, x < k → Sub (s.1 x) (h x)
  less : mu s.1 k + s.2.length ≤ mu g k + ws.length
variable {us ss bs P k}
theorem FI.step {g : Nat → Nat} {ws : List Nat} {v x : Nat} {D : Nat → Prop} {s : (Nat → Nat) × List Nat} (h : FI us ss bs P k g ws v D s) (hx : x < k) (hv : v < 32) (hle : ∀ h, Pre us ss bs P k h → Sub v (h x)) :
    FI us ss bs P k g ws v (fun y => D y ∨ y = x) (pV v s x) := by
  unfold pV
  split
  · rename_i he
    refine ⟨h.up, h.lt, h.old, h.wk, fun y hy => ?_, h.eq, h.le, h.less⟩
    rcases hy with hy | rfl
    · exact h.dn y hy
    · show v ||| s.1 y = s.1 y; rw [Nat.or_comm]; exact he
  · rename_i he
    have hsub : ∀ e, Sub (s.1 e) (if e = x then s.1 x ||| v else s.1 e) := fun e => by
      by_cases hex : e = x
      · subst hex; rw [if_pos rfl]; exact Sub.left _ _
      · rw [if_neg hex]; exact Sub.refl _
    have hlt : ∀ e, (if e = x then s.1 x ||| v else s.1 e) < 32 := fun e => by
      split
      · exact or_lt (h.lt x) hv
      · exact h.lt e
    refine ⟨fun e => (h.up e).trans (hsub e), hlt, fun y hy => by simp [h.old y hy], fun y hy => ?_, fun y hy => ?_, fun e hn => ?_, fun q hq y hy => ?_, ?_⟩
    · rcases List.mem_append.1 hy with hy | hy
      · exact h.wk y hy
      · rw [List.mem_singleton] at hy; omega
    · rcases hy with hy | rfl
      · exact (h.dn y hy).trans (hsub y)
      · show Sub v (if y = y then s.1 y ||| v else s.1 y); rw [if_pos rfl]; exact Sub.right _ _
    · have hn : e ∉ s.2 ∧ e ≠ x := by simpa using hn
      show (if e = x then s.1 x ||| v else s.1 e) = g e
      rw [if_neg hn.2]; exact h.eq e hn.1
    · show Sub (if y = x then s.1 x ||| v else s.1 y) (q y)
      by_cases hyx : y = x
      · subst hyx; rw [if_pos rfl]; exact Sub.or (h.le q hq y hy) (hle q hq)
      · rw [if_neg hyx]; exact h.le q hq y hy
    · have hm := h.less
      have hle' : ∀ e, s.1 e ≤ (if e = x then s.1 x ||| v else s.1 e) := fun e => by
        split
        · rename_i e'; subst e'; exact Nat.left_le_or
        · exact Nat.le_refl _
      have := mu_lt (g := s.1) (g' := fun e => if e = x then s.1 x ||| v else s.1 e) hle' hlt (x := x) (by
        show s.1 x < (if x = x then s.1 x ||| v else s.1 x)
        rw [if_pos rfl]
        have h1 : s.1 x ≤ s.1 x ||| v := Nat.left_le_or
        omega) k hx
      rw [List.length_append, List.length_singleton]
      show mu (fun e => if e = x then s.1 x ||| v else s.1 e) k + _ ≤ _
      omega
theorem FI.all {g : Nat → Nat} {ws : List Nat} {v : Nat} (hv : v < 32) : ∀ (l : List Nat) (D : Nat → Prop) (s : (Nat → Nat) × List Nat), FI us ss bs P k g ws v D s → (∀ x ∈ l, x < k ∧ ∀ h, Pre us ss bs P k h → Sub v (h x)) →
    FI us ss bs P k g ws v (fun y => D y ∨ y ∈ l) (l.foldl (pV v) s)
  | [], D, s, h, hl => ⟨h.up, h.lt, h.old, h.wk, fun x hx => h.dn x (by simpa using hx), h.eq, h.le, h.less⟩
  | x :: l, D, s, h, hl => by
    have h1 := h.step (hl x (by simp)).1 hv (hl x (by simp)).2
    have h2 := FI.all hv l _ _ h1 (fun y hy => hl y (by simp [hy]))
    exact ⟨h2.up, h2.lt, h2.old, h2.wk, fun y hy => h2.dn y (by simp only [List.mem_cons] at hy; rcases hy with h | h | h; exact .inl (.inl h); exact .inl (.inr h); exact .inr h), h2.eq, h2.le, h2.less⟩
structure Inv (us ss bs : Nat → Nat) (P : Nat → List Nat) (k : Nat) (g : Nat → Nat) (ws : List Nat) : Prop where
  base : ∀ x, x < k → Sub (bs x) (g x)
  edge : ∀ e x, e < k → e ∉ ws → x ∈ P e → Sub (inN us ss g e) (g x)
  least : ∀ h, Pre us ss bs P k h → ∀ x, x < k → Sub (g x) (h x)
  lt : ∀ e, g e < 32
  wk : ∀ x ∈ ws, x < k
theorem inN_sub {g h : Nat → Nat} {e : Nat} (hs : Sub (g e) (h e)) : Sub (inN us ss g e) (inN us ss h e) :=
  Sub.or (Sub.left _ _) ((hs.and _).trans (Sub.right _ _))
theorem inN_eq {g h : Nat → Nat} {e : Nat} (he : h e = g e) : inN us ss h e = inN us ss g e := by unfold inN; rw [he]
theorem Inv.step {g : Nat → Nat} {ws : List Nat} {i : Nat} (hus : ∀ e, us e < 32) (hPk : ∀ e x, x ∈ P e → x < k) (h : Inv us ss bs P k g (ws ++ [i])) :
    Inv us ss bs P k ((P i).foldl (pV (inN us ss g i)) (g, ws)).1 ((P i).foldl (pV (inN us ss g i)) (g, ws)).2 ∧
    mu ((P i).foldl (pV (inN us ss g i)) (g, ws)).1 k + ((P i).foldl (pV (inN us ss g i)) (g, ws)).2.length ≤ mu g k + ws.length := by
  have hi : i < k := h.wk i (by simp)
  have hv : inN us ss g i < 32 := or_lt (hus i) (and_lt _ (h.lt i))
  have h0 : FI us ss bs P k g ws (inN us ss g i) (fun _ => False) (g, ws) := ⟨fun e => Sub.refl _, h.lt, fun x hx => hx, fun x hx => h.wk x (by simp [hx]), fun x hx => hx.elim, fun e _ => rfl, h.least, Nat.le_refl _⟩
  have hF := FI.all hv (P i) _ _ h0 (fun x hx => ⟨hPk i x hx, fun q hq => (inN_sub (h.least q hq i hi)).trans (hq.edge i x hi hx)⟩)
  refine ⟨⟨fun x hx => (h.base x hx).trans (hF.up x), fun e x he hn hx => ?_, hF.le, hF.lt, hF.wk⟩, hF.less⟩
  have e1 := hF.eq e hn
  have e2 : inN us ss ((P i).foldl (pV (inN us ss g i)) (g, ws)).1 e = inN us ss g e := inN_eq e1
  rw [e2]
  by_cases hei : e = i
  · subst hei; exact hF.dn x (.inr hx)
  · refine (h.edge e x he (fun hm => ?_) hx).trans (hF.up x)
    rcases List.mem_append.1 hm with hm | hm
    · exact hn (hF.old e hm)
    · rw [List.mem_singleton] at hm; exact hei hm
inductive WkP (us ss : Nat → Nat) (P : Nat → List Nat) : Nat → (Nat → Nat) → List Nat → (Nat → Nat) → Prop
  | done (g : Nat → Nat) : WkP us ss P 0 g [] g
  | step (g g' : Nat → Nat) (ws : List Nat) (i N : Nat) (h : WkP us ss P N ((P i).foldl (pV (inN us ss g i)) (g, ws)).1 ((P i).foldl (pV (inN us ss g i)) (g, ws)).2 g') : WkP us ss P (N + (((P i).foldl (pV (inN us ss g i)) (g, ws)).2.length - ws.length)) g (ws ++ [i]) g'
theorem pV_len (v : Nat) (s : (Nat → Nat) × List Nat) (x : Nat) : s.2.length ≤ (pV v s x).2.length := by
  unfold pV; split <;> simp
theorem pV_lenA (v : Nat) : ∀ (l : List Nat) (s : (Nat → Nat) × List Nat), s.2.length ≤ (l.foldl (pV v) s).2.length
  | [], s => Nat.le_refl _
  | x :: l, s => Nat.le_trans (pV_len v s x) (pV_lenA v l (pV v s x))
theorem wk_ex (hus : ∀ e, us e < 32) (hPk : ∀ e x, x ∈ P e → x < k) : ∀ (M : Nat) (g : Nat → Nat) (ws : List Nat), 2 * mu g k + ws.length ≤ M → Inv us ss bs P k g ws → ∃ N g', N ≤ mu g k ∧ WkP us ss P N g ws g' ∧ Inv us ss bs P k g' []
  | M, g, ws, hM, h => by
    rcases List.eq_nil_or_concat ws with rfl | ⟨ws', i, rfl⟩
    · exact ⟨0, g, Nat.zero_le _, .done g, h⟩
    · rw [List.concat_eq_append] at h hM ⊢
      rw [List.length_append, List.length_singleton] at hM
      obtain ⟨h1, h2⟩ := h.step hus hPk
      have h3 := pV_lenA (inN us ss g i) (P i) (g, ws')
      simp only at h3
      match M with
      | 0 => omega
      | M + 1 =>
        obtain ⟨N, g', hN, hw, hI⟩ := wk_ex hus hPk M _ _ (by omega) h1
        exact ⟨_, g', by omega, .step g g' ws' i N hw, hI⟩
theorem Inv.least' {g : Nat → Nat} (h : Inv us ss bs P k g []) : Least us ss bs P k g :=
  ⟨⟨h.base, fun e x he hx => h.edge e x he (by simp) hx⟩, h.least, h.lt⟩
theorem Least.uniq {g g' : Nat → Nat} (h : Least us ss bs P k g) (h' : Least us ss bs P k g') {e : Nat} (he : e < k) : g e = g' e := (h.least _ h'.pre e he).anti (h'.least _ h.pre e he)
end
end Go.Proofs.Ytdjmpilegommlaa
namespace Go.Proofs.Ytdjmpilegommlaa
open Go Go.Ly Go.RowKit
theorem so_T2 (a o n : Nat → Int) (k : Nat) (i : Int) : endsAt [0] (Ly.run cxC 200 [(0, false)] (mkSt Try.f31 soK none 1 (soV k i) [some (ndL a o n k)])) = some ([(decide (0 < i), false)], .bool true, 1, [some (ndL a o n k)]) := by kernel_rfl
theorem so_E2 (a o n : Nat → Int) (k : Nat) (i : Int) : endsAt [0] (Ly.run cxC 200 (soP [(0, true)]) (mkSt Try.f31 soK none 1 (soV k i) [some (ndL a o n k)])) = some (soT a k i [(decide (soX a i < soX a (soW i)), true)], .bool false, 1, [some (ndL a o n k)]) := by kernel_rfl
def SoQ (a o n : Nat → Int) (k : Nat) (b : Bool) (v : Value) (K : Heap) : Prop := v = .bool b ∧ K.get 0 = some (ndL a o n k) ∧ K.lock = 0 ∧ K.next = 1
theorem so_end {a o n : Nat → Int} {k : Nat} {b : Bool} {v : Value} {K : Heap} {nx : Nat} (h : v = .bool b ∧ K.next = 1 ∧ [0].map K.get = [some (ndL a o n k)] ∧ K.lock = 0) : SoQ a o n k b v K :=
  ⟨h.1, (List.cons.inj h.2.2.1).1, h.2.2.2, h.2.1⟩
theorem so_loop2 (a o n : Nat → Int) (k : Nat) (hk : k ≤ 4294967000) : ∀ (i : Nat), i < k → MWp Try.prog (mkSt Try.f31 soK none 1 (soV k i) [some (ndL a o n k)]) (SoQ a o n k (soN a i))
  | 0, _ => (MWp.ends cxC_ok 200 _ (so_T2 a o n k 0) (by simp [trusted])).mono (fun v K h => so_end (nx := 0) h)
  | i + 1, hi => by
    obtain ⟨h1, h2, h3, h4⟩ := ix_tests hi
    obtain ⟨g1, g2, g3, g4⟩ := ix_tests (show i < k by omega)
    have hw : soW ((i + 1 : Nat) : Int) = (i : Int) := by unfold soW; rw [IntKind.wrap_i64]; omega
    have h0 : decide ((0 : Int) < ((i + 1 : Nat) : Int)) = true := by simp
    have x1 : soX a ((i + 1 : Nat) : Int) = a (i + 1) := by unfold soX; rw [h3]
    have x2 : soX a (i : Int) = a i := by unfold soX; rw [g3]
    have nn : ∀ x : Int, (x != x) = false := fun x => by simp
    cases c : decide (a (i + 1) < a i) with
    | true =>
      have e : soN a (i + 1) = false := by simp only [soN, c, cond_true]
      rw [e]
      exact (MWp.ends cxC_ok 200 _ (so_E2 a o n k ((i + 1 : Nat) : Int)) (by simp only [soT, trusted, hw, h0, h2, h3, h4, g2, g3, g4, x1, x2, nn, c, and_self])).mono (fun v K h => so_end (nx := 0) h)
    | false =>
      have e : soN a (i + 1) = soN a i := by simp only [soN, c, cond_false]
      rw [e]
      cases c2 : decide (a i < a (i + 1)) with
      | true =>
        refine MWp.head cxC_ok _ _ _ _ (so_I a o n k ((i + 1 : Nat) : Int)) (by simp only [soT, trusted, hw, h0, h2, h3, h4, g2, g3, g4, x1, x2, nn, c, c2, and_self]) (ow_P a o n k) ?_
        rw [hw]; exact so_loop2 a o n k hk i (by omega)
      | false =>
        refine MWp.head cxC_ok _ _ _ _ (so_J a o n k ((i + 1 : Nat) : Int)) (by simp only [soT, trusted, hw, h0, h2, h3, h4, g2, g3, g4, x1, x2, nn, c, c2, and_self]) (ow_P a o n k) ?_
        rw [hw]; exact so_loop2 a o n k hk i (by omega)
theorem so_calls2 (a o n : Nat → Int) (k : Nat) (hk : k ≤ 4294967000) : LCalls Try.prog 31 [sls 0 k, soF] (mkH [some (ndL a o n k)]) (SoQ a o n k (soN a (k - 1))) := by
  refine LCalls_of cxC_ok soG (by kernel_rfl) ?_
  refine MWp.head cxC_ok _ _ _ _ (so_0 a o n k) trivial (ow_P a o n k) ?_
  rcases k with _ | k
  · exact (MWp.ends cxC_ok 200 _ (so_T2 a o n 0 _) (by simp [trusted, IntKind.wrap_i64])).mono (fun v K h => so_end (nx := 0) h)
  · have hw : IntKind.i64.wrap (((k + 1 : Nat) : Int) - 1) = (k : Int) := by rw [IntKind.wrap_i64]; omega
    rw [hw]
    exact so_loop2 a o n (k + 1) hk k (by omega)
theorem lv_G (a o n : Nat → Int) (k : Nat) (H : Heap) : haltF [0, 21, 22, 23] lvD (Ly.run cxL 13 [] (lvB0 a o n k true H)) = (true, [], true, (Try.f14, lpK, none, 1), lpV k 0, H) := by kernel_rfl
theorem lv_few (a o n : Nat → Int) (k nx : Nat) : formOf [0, 21, 22, 23] [0] (atSt Try.f14 lpK none 1 (lpV k 0) (vH [0] [some (ndL a o n k)] nx)) = (true, (Try.f14, lpK, none, 1), lpV k 0, [some (ndL a o n k)]) := by kernel_rfl
theorem zi_L (k : Nat) : LOeq (zL k) (inL (fun _ => 0) k) := by
  refine .inr ⟨1, _, _, k, 3, rfl, rfl, fun e j he hj => ?_⟩
  obtain rfl : j = 0 := by omega
  rfl
theorem live_start {Q : Value → Heap → Prop} (a o n : Nat → Int) (k : Nat) (hk : k ≤ 100) (ho : ∀ e, e < k → inb (o e) = true)
    (hgood : soN a (k - 1) = true → riN k a o = true → MWp Try.prog (atSt Try.f14 laK none 1 (laV0 k) (laH0 a o n k)) Q) (hbad : (soN a (k - 1) && riN k a o) = false → ∀ H, Q badT H) : LCalls Try.prog 14 [sls 0 k] (mkH [some (ndL a o n k)]) Q := by
  refine LCalls_of cxL31_ok lvG (by kernel_rfl) ?_
  refine MWp.head cxL31_ok _ _ _ _ (lv_0 a o n k) trivial (ow_P a o n k) ?_
  refine MWp.call envOk (lv_C a o n k) (so_calls2 a o n k (by omega)) ?_
  rintro v K ⟨rfl, k0, kl, kn⟩
  cases hs : soN a (k - 1) with
  | false => exact MWp.out cxL_ok 60 [] (lv_F a o n k K) trivial (hbad (by rw [hs]; rfl))
  | true =>
    refine MWp.halted cxL_ok _ _ _ (lv_G a o n k K) trivial ?_
    refine MWp.keepB (bs := [0]) (os := [some (ndL a o n k)]) (os' := [some (ndL a o n k)]) [0, 21, 22, 23] kn kl (by simp [k0]) ?_ rfl (lv_few a o n k 1) (ow_P a o n k) ?_
    · exact ⟨OW.refl _, trivial⟩
    · refine lp_loop a o n k hk ho (fun e he => (soN_spec (k - 1)).1 hs e (by omega)) (fun h => hgood hs h) (fun h => hbad (by rw [h, Bool.and_false])) k 0 (by omega) rfl
end Go.Proofs.Ytdjmpilegommlaa
namespace Go.Proofs.Ytdjmpilegommlaa
open Go Go.Ly Go.RowKit
theorem sWE0 (k bo ba : Nat) (H : Heap) : dn (Ly.run cxL 100 [] (atSt Try.f14 laW none 1 (slots 156 (wAL k bo ba (.slice none 0 0))) H)) = some ([], okT bo k, H) := by kernel_rfl
theorem la_0 (a o n : Nat → Int) (k : Nat) : (laH0 a o n k).get 0 = some (ndL a o n k) := by kernel_rfl
theorem la_1 (a o n : Nat → Int) (k : Nat) : (laH0 a o n k).get 1 = some (zL k) := by kernel_rfl
theorem la_2 (a o n : Nat → Int) (k : Nat) : (laH0 a o n k).get 2 = some (niL k) := by kernel_rfl
theorem la_n (a o n : Nat → Int) (k : Nat) : (laH0 a o n k).next = 3 := by kernel_rfl
theorem la_l (a o n : Nat → Int) (k : Nat) : (laH0 a o n k).lock = 0 := by kernel_rfl
theorem og_0 (a o n : Nat → Int) (k : Nat) : og a o n k 0 = fun _ => 0 := by
  funext e; unfold og
  rw [show Nat.blt e 0 = false from Bool.eq_false_iff.2 fun h => by rw [Nat.blt_eq] at h; omega]; rfl
def LiveQ (a o : Nat → Int) (k : Nat) (G : Nat → Int) (u : Value) (K : Heap) : Prop := ((soN a (k - 1) && riN k a o) = false ∧ u = badT) ∨ ((soN a (k - 1) && riN k a o) = true ∧ u = okT 1 k ∧ K.lock = 0 ∧ ∃ g', K.get 1 = some (inL g' k) ∧ ∀ e, e < k → g' e = G e)
theorem live_calls (a o n : Nat → Int) (k : Nat) (hk : k ≤ 100) (ho : ∀ e, e < k → inb (o e) = true) (G : Nat → Int)
    (hW : (soN a (k - 1) && riN k a o) = true → ∀ P : Nat → List Nat, (∀ e x, x ∈ P e ↔ x < k ∧ e ∈ toL a o n k x) → (∀ e, (P e).length ≤ k) → ∃ N g', N ≤ 100000 ∧ Wk o P N (og a o n k k) (List.range k) g' ∧ ∀ e, e < k → g' e = G e) :
    LCalls Try.prog 14 [sls 0 k] (mkH [some (ndL a o n k)]) (LiveQ a o k G) := by
  refine live_start a o n k hk ho (fun hs hr => ?_) (fun hb H => .inl ⟨hb, rfl⟩)
  have hsr : (soN a (k - 1) && riN k a o) = true := by rw [hs, hr]; rfl
  refine MWp.eqO (la_1 a o n k) rfl (zi_L k) (by decide) ?_
  have pg := fun o' j => put_get (H := laH0 a o n k) (show 1 < big by decide) o' j
  have hB : Bld ((laH0 a o n k).put 1 (inL (fun _ => 0) k)) a o n (og a o n k 0) k 1 2 0 (List.replicate k (.slice none 0 0)) (fun _ => []) (fun _ => 0) (List.range 0) := by
    rw [og_0]
    refine ⟨la_l a o n k, by rw [pg, if_neg (by decide)]; exact la_0 a o n k, by rw [pg, if_pos rfl], by rw [pg, if_neg (by decide)]; exact la_2 a o n k, List.length_replicate, fun e he => ?_, fun e he h => absurd rfl h, fun e he h => absurd rfl h, fun e e' _ _ h => absurd rfl h, fun h => absurd rfl h, fun h => absurd rfl h, fun h => absurd rfl h⟩
    rw [List.getElem?_replicate, if_pos he]; rfl
  show MWp Try.prog (atSt Try.f14 laK none 1 (slots 156 (hAL k 1 2 (liV 0 (List.range 0)) ((0 : Nat) : Int))) ((laH0 a o n k).put 1 (inL (fun _ => 0) k))) (LiveQ a o k G)
  refine bld_all hk ho (by decide) ?_ k 0 _ _ _ _ _ (by omega) (by show (laH0 a o n k).next + 7 * k ≤ 10000; rw [la_n]; omega) hB (fun e x => by simp) (fun e => by simp)
  intro K c qs bw P kn hK hP hPl
  refine MWp.halted cxL_ok _ _ _ (stW k 1 2 (liV bw (List.range k)) (k : Nat) K) (by simp only [trusted, show decide (((k : Nat) : Int) < (k : Nat)) = false by rw [decide_eq_false_iff_not]; omega, and_self]) ?_
  obtain ⟨N, g', hN, hwk, hg⟩ := hW hsr P hP hPl
  by_cases hk0 : k = 0
  · subst hk0
    refine MWp.done cxL_ok 100 [] (dn_end (sWE0 0 1 2 K) hK.lock) trivial (.inr ⟨hsr, rfl, hK.lock, _, hK.out, fun e he => by omega⟩)
  · have hne : List.range k ≠ [] := by
      intro h; have := congrArg List.length h; simp at this; exact hk0 this
    rw [liV_ne hne, ← wV_ne (b := bw) hne]
    have hWr : Wrk K a o n (og a o n k k) k 1 2 bw c P qs (List.range k) := ⟨hK.lock, hK.nd, hK.out, hK.rows, hK.len, hK.cell, hK.row, hK.rout, hK.work hne, hK.wout hne, hK.wrow hne⟩
    refine (wk_all hk ho (by decide) (fun e x h => ((hP e x).1 h).1) (fun e => by have := hPl e; omega) hwk K bw hWr (by rw [List.length_range]; omega) (by unfold big; omega) (fun x hx => List.mem_range.1 hx)).mono ?_
    rintro u J ⟨rfl, j1, j2⟩
    exact .inr ⟨hsr, rfl, j2, g', j1, hg⟩
end Go.Proofs.Ytdjmpilegommlaa
namespace Go.Proofs.Ytdjmpilegommlaa
open Go Go.Ly Go.RowKit
def castF (g : Nat → Nat) : Nat → Int := fun e => (g e : Int)
def usN (o : Nat → Int) (e : Nat) : Nat := if inb (o e) = true then (usesT (o e)).toNat else 0
def ssN (o : Nat → Int) (e : Nat) : Nat := if inb (o e) = true then (setsT (o e)).toNat else 0
theorem usN_lt (o : Nat → Int) (e : Nat) : usN o e < 32 := by
  unfold usN; split
  · rename_i h; have := us_in h; omega
  · omega
theorem ssN_lt (o : Nat → Int) (e : Nat) : ssN o e < 32 := by
  unfold ssN; split
  · rename_i h; have := us_in h; omega
  · omega
theorem usN_c {o : Nat → Int} {e : Nat} (h : inb (o e) = true) : usesT (o e) = (usN o e : Int) := by
  unfold usN; rw [if_pos h]; have := us_in h; omega
theorem ssN_c {o : Nat → Int} {e : Nat} (h : inb (o e) = true) : setsT (o e) = (ssN o e : Int) := by
  unfold ssN; rw [if_pos h]; have := us_in h; omega
theorem inF_c {o : Nat → Int} {g : Nat → Nat} {e : Nat} (h : inb (o e) = true) (hg : g e < 32) : inF o (castF g) e = (inN (usN o) (ssN o) g e : Int) := by
  have hx : xO o (e : Int) = o e := by unfold xO; rw [show 0 + ((e : Int)).toNat = e by omega]
  unfold inF
  rw [hx, gA_at, usN_c h, ssN_c h]
  show bits .or .i64 (usN o e : Int) (bits .andNot .i64 (g e : Int) (ssN o e : Int)) = _
  rw [bits_an hg (ssN_lt o e), bits_or (usN_lt o e) (and_lt _ hg)]; rfl
theorem inN_lt {o : Nat → Int} {g : Nat → Nat} {e : Nat} (hg : g e < 32) : inN (usN o) (ssN o) g e < 32 := or_lt (usN_lt o e) (and_lt _ hg)
theorem sV_c {v : Nat} {s : (Nat → Nat) × List Nat} {x : Nat} (hv : v < 32) (hs : ∀ e, s.1 e < 32) : sV (v : Int) (castF s.1, s.2) x = (castF (pV v s x).1, (pV v s x).2) := by
  have hb : bits .or .i64 (castF s.1 x) (v : Int) = ((s.1 x ||| v : Nat) : Int) := bits_or (hs x) hv
  unfold sV pV
  simp only [hb]
  by_cases h : s.1 x ||| v = s.1 x
  · rw [if_pos h]
    have : (((s.1 x ||| v : Nat) : Int) == castF s.1 x) = true := by rw [h]; simp [castF]
    rw [this]; rfl
  · rw [if_neg h]
    have : (((s.1 x ||| v : Nat) : Int) == castF s.1 x) = false := by
      rw [Bool.eq_false_iff]; intro h'
      have h' : ((s.1 x ||| v : Nat) : Int) = (s.1 x : Int) := by simpa [castF] using h'
      exact h (by omega)
    rw [this]
    simp only [cond_false, Prod.mk.injEq, and_true]
    funext e
    unfold castF
    by_cases he : e = x
    · subst he; simp [Nat.beq_refl]
    · show _ = (((if e = x then s.1 x ||| v else s.1 e : Nat)) : Int)
      rw [if_neg he, show Nat.beq e x = false from Bool.eq_false_iff.2 fun h' => he (Nat.eq_of_beq_eq_true h')]; rfl
theorem pV_lt {v : Nat} {s : (Nat → Nat) × List Nat} {x : Nat} (hv : v < 32) (hs : ∀ e, s.1 e < 32) (e : Nat) : (pV v s x).1 e < 32 := by
  unfold pV
  split
  · exact hs e
  · show (if e = x then s.1 x ||| v else s.1 e) < 32
    split
    · exact or_lt (hs x) hv
    · exact hs e
theorem fV_c {v : Nat} (hv : v < 32) : ∀ (l : List Nat) (s : (Nat → Nat) × List Nat), (∀ e, s.1 e < 32) → fV (v : Int) (castF s.1, s.2) l = (castF (l.foldl (pV v) s).1, (l.foldl (pV v) s).2) ∧ ∀ e, (l.foldl (pV v) s).1 e < 32
  | [], s, hs => ⟨rfl, hs⟩
  | x :: l, s, hs => by
    have h := fV_c hv l (pV v s x) (pV_lt hv hs)
    refine ⟨?_, h.2⟩
    show fV (v : Int) (sV (v : Int) (castF s.1, s.2) x) l = _
    rw [sV_c hv hs]; exact h.1
theorem wk_cast {o : Nat → Int} {P : Nat → List Nat} {k N : Nat} {g g' : Nat → Nat} {ws : List Nat} (ho : ∀ e, e < k → inb (o e) = true) (hPk : ∀ e x, x ∈ P e → x < k) (h : WkP (usN o) (ssN o) P N g ws g') :
    (∀ e, g e < 32) → (∀ x ∈ ws, x < k) → Wk o P N (castF g) ws (castF g') := by
  induction h with
  | done g => intro _ _; exact .done _ 0
  | step g g' ws i N h ih =>
    intro hg hw
    have hi : i < k := hw i (by simp)
    have hv : inF o (castF g) i = (inN (usN o) (ssN o) g i : Int) := inF_c (ho i hi) (hg i)
    obtain ⟨e1, e2⟩ := fV_c (inN_lt (o := o) (hg i)) (P i) (g, ws) hg
    have e1 : fV (inF o (castF g) i) (castF g, ws) (P i) = (castF ((P i).foldl (pV (inN (usN o) (ssN o) g i)) (g, ws)).1, ((P i).foldl (pV (inN (usN o) (ssN o) g i)) (g, ws)).2) := by rw [hv]; exact e1
    have := Wk.step (o := o) (P := P) (castF g) (castF g') ws i N (by
      rw [e1]
      refine ih e2 fun x hx => ?_
      have hx' : x ∈ (fV (inF o (castF g) i) (castF g, ws) (P i)).2 := by rw [e1]; exact hx
      rcases fV_in _ _ hx' with h | h
      · exact hw x (by simp [h])
      · exact hPk i x h)
    rw [e1] at this; exact this
def bsN (a o n : Nat → Int) (k e : Nat) : Nat := bif Nat.blt e k && opL a o n k e then 31 else 0
theorem og_c (a o n : Nat → Int) (k : Nat) : og a o n k k = castF (bsN a o n k) := by
  funext e; unfold og castF bsN; cases (Nat.blt e k && opL a o n k e) <;> rfl
theorem bsN_lt (a o n : Nat → Int) (k e : Nat) : bsN a o n k e < 32 := by unfold bsN; cases (Nat.blt e k && opL a o n k e) <;> decide
def prL (a o n : Nat → Int) (k e : Nat) : List Nat := (List.range k).filter fun x => decide (e ∈ toL a o n k x)
theorem prL_in {a o n : Nat → Int} {k e x : Nat} : x ∈ prL a o n k e ↔ x < k ∧ e ∈ toL a o n k x := by simp [prL]
def LeastL (a o n : Nat → Int) (k : Nat) (g : Nat → Nat) : Prop := Least (usN o) (ssN o) (bsN a o n k) (prL a o n k) k g
theorem Pre.congr {us ss bs : Nat → Nat} {P P' : Nat → List Nat} {k : Nat} {h : Nat → Nat} (hP : ∀ e x, x ∈ P e ↔ x ∈ P' e) (hp : Pre us ss bs P k h) : Pre us ss bs P' k h := ⟨hp.base, fun e x he hx => hp.edge e x he ((hP e x).2 hx)⟩
theorem Least.congr {us ss bs : Nat → Nat} {P P' : Nat → List Nat} {k : Nat} {h : Nat → Nat} (hP : ∀ e x, x ∈ P e ↔ x ∈ P' e) (hp : Least us ss bs P k h) : Least us ss bs P' k h :=
  ⟨hp.pre.congr hP, fun q hq => hp.least q (hq.congr fun e x => (hP e x).symm), hp.lt⟩
theorem mu_bd (g : Nat → Nat) : ∀ k, mu g k ≤ 31 * k
  | 0 => Nat.le_refl _
  | k + 1 => by have := mu_bd g k; simp only [mu]; omega
theorem live_run (a o n : Nat → Int) (k : Nat) (P : Nat → List Nat) (hP : ∀ e x, x ∈ P e ↔ x < k ∧ e ∈ toL a o n k x) : ∃ N g', N ≤ 31 * k ∧ WkP (usN o) (ssN o) P N (bsN a o n k) (List.range k) g' ∧ LeastL a o n k g' := by
  have hI : Inv (usN o) (ssN o) (bsN a o n k) P k (bsN a o n k) (List.range k) :=
    ⟨fun x _ => Sub.refl _, fun e x he hn _ => absurd (List.mem_range.2 he) hn, fun h hp => hp.base, bsN_lt a o n k, fun x hx => List.mem_range.1 hx⟩
  obtain ⟨N, g', hN, hw, hI'⟩ := wk_ex (usN_lt o) (fun e x h => ((hP e x).1 h).1) _ _ _ (Nat.le_refl _) hI
  exact ⟨N, g', Nat.le_trans hN (mu_bd _ _), hw, hI'.least'.congr fun e x => (hP e x).trans prL_in.symm⟩
theorem live_ex (a o n : Nat → Int) (k : Nat) : ∃ g, LeastL a o n k g := by
  obtain ⟨N, g', _, _, h⟩ := live_run a o n k (prL a o n k) (fun e x => prL_in)
  exact ⟨g', h⟩
def livN (a o n : Nat → Int) (k : Nat) : Nat → Nat := Classical.choose (live_ex a o n k)
theorem livN_least (a o n : Nat → Int) (k : Nat) : LeastL a o n k (livN a o n k) := Classical.choose_spec (live_ex a o n k)
def livG (a o n : Nat → Int) (k : Nat) : Nat → Int := castF (livN a o n k)
theorem live_good (a o n : Nat → Int) (k : Nat) (hk : k ≤ 100) (ho : ∀ e, e < k → inb (o e) = true) : LCalls Try.prog 14 [sls 0 k] (mkH [some (ndL a o n k)]) (LiveQ a o k (livG a o n k)) := by
  refine live_calls a o n k hk ho _ fun _ P hP hPl => ?_
  obtain ⟨N, g', hN, hw, hL⟩ := live_run a o n k P hP
  refine ⟨N, castF g', by omega, ?_, fun e he => ?_⟩
  · rw [og_c]
    exact wk_cast ho (fun e x h => ((hP e x).1 h).1) hw (bsN_lt a o n k) (fun x hx => List.mem_range.1 hx)
  · show ((g' e : Nat) : Int) = (livN a o n k e : Nat)
    rw [hL.uniq (livN_least a o n k) he]
end Go.Proofs.Ytdjmpilegommlaa
namespace Go.Ly
open Go.RowKit
section
variable {P : Program} {ρ : Ren} {H : Heap} {w w' : World}
theorem calls_pairF {f : FuncId} {args0 args' : List Value} {os : List (Option LO)} {ρ1 : Ren} {r n : Nat} {g : Nat → Value} {t : TypeId} {x : Value} (hx : plain x = true) (hc : ∀ e, e < n → cst (g e) = true)
    (h : LCalls P f args0 (mkH os) (fun u K => u = .tuple ⟨[sl r n, x]⟩ ∧ (∃ g', K.get r = some (.fn 1 g' n t) ∧ ∀ e, e < n → g' e 0 = g e) ∧ K.lock = 0)) (ha : VRL ρ1 args0 args') (hr1 : Rep ρ1 (mkH os) w) (hro : ∀ i, ρ1.ro i = true)
    (hr : Rep ρ H w) (hb : H.next + 1 < big) :
    Calls P f ⟨args'⟩ w (fun e w' => ∃ ρ' v v' H', e = .returned v' ∧ (v = .tuple ⟨[sl H.next n, x]⟩ ∧ H' = H.new (.fn 1 (fun e _ => g e) n t)) ∧ Ren.le ρ ρ' ∧ Fresh ρ ρ' w ∧ VR ρ' v v' ∧ Rep ρ' H' w' ∧ Keep ρ w w') := by
  refine (h ρ1 args' w ha hr1).mono ?_
  rintro e w' ⟨ρ2, u, u', K, rfl, ⟨rfl, ⟨g', hK, hg⟩, hlk⟩, h1, h2, h3, h4, h5⟩
  have hbel : Below w.heap.size w w' := ⟨h5.os, h5.tape, h5.output, h5.size, fun k hk => h5.block k hk (fun i _ => hro i)⟩
  obtain ⟨q1, b, o', q2, q3, q4⟩ := h4.obj r _ hK rfl
  have hro2 : ρ2.ro r = false := q1 (by rw [hlk]; exact Nat.zero_le _)
  have hbnew : w.heap.size ≤ b := by
    rcases h2 r b q2 with h6 | ⟨j, _, h6⟩
    · exact h6
    · have := h6 hro2; rw [hro j] at this; cases this
  have hrB := hr.below hbel
  have hnone : ∀ i, ρ i ≠ some b := fun i e => by have := (hr.dom i b e).2; omega
  obtain ⟨z1, z0, c', d', z3, z5, z4, z2⟩ := q4
  have hOR : OR (ρ.ext H.next b (ρ2.cap r) 1) H.next (.fn 1 (fun e _ => g e) n t) o' := by
    refine ⟨by simp [Ren.ext], by simp [Ren.ext], c', d', z3, z5, by simp [Ren.ext]; omega, ⟨fun e j he hj => ?_, fun e j he hj => hc e he⟩⟩
    obtain rfl : j = 0 := by omega
    obtain ⟨v', k1, k2⟩ := z2.val e 0 he (by omega)
    rw [hg e he] at k2
    exact ⟨v', k1, VR_cst (hc e he) k2⟩
  have hRep := hrB.extNew (k := ρ2.cap r) (wd := 1) hb rfl (h4.dom r b q2).2 hnone q3 hOR (by
    cases hf : fixed b with
    | none => rfl
    | some o => have := hr.fix.lt hf; omega)
  refine ⟨ρ.ext H.next b (ρ2.cap r) 1, .tuple ⟨[sl H.next n, x]⟩, u', _, rfl, ⟨rfl, rfl⟩, hr.ext_le _ _ _, fun i y hy => ?_, ?_, hRep, Below.toKeep hbel⟩
  · simp only [Ren.ext] at hy
    split at hy
    · simp at hy; subst hy; exact .inl hbnew
    · rename_i e; exact .inr ⟨i, hy, by simp [Ren.ext, e]⟩
  · simp only [VR, VRL, sl] at h3 ⊢
    obtain ⟨l', ⟨s', r', ⟨a', c2, rfl, y1, y2, y3⟩, ⟨x', e', hx', he', rfl⟩, rfl⟩, rfl⟩ := h3
    subst he'
    have := plain_eq hx hx'
    subst this
    refine ⟨_, ⟨_, _, ⟨a', c2, rfl, y1, fun hc => absurd rfl hc, fun hN => ?_⟩, ⟨_, _, plain_VR _ hx, rfl, rfl⟩, rfl⟩, rfl⟩
    obtain ⟨b', x1, x2, x3⟩ := y3 hN
    have hbb : b' = b := by
      have x1' : ρ2 r = some b' := x1
      rw [q2] at x1'; simp at x1'; exact x1'.symm
    subst hbb
    refine ⟨b', by simp [Ren.ext], ?_, ?_⟩
    · rw [x2]; simp [Ren.at, Ren.ext, z1]
    · intro hc _
      have := x3 rfl (by simp [Ren.at, z1])
      simpa [Ren.ext] using this
def EmpT (z : Bool) (x : Value) (u : Value) : Prop := (z = true ∧ u = .tuple ⟨[.slice none 0 0, x]⟩) ∨ (z = false ∧ ∃ b, u = .tuple ⟨[sl b 0, x]⟩)
def empV (z : Bool) (x : Value) : Value := .tuple ⟨[bif z then .slice none 0 0 else sl 0 0, x]⟩
theorem EmpT.vr {z : Bool} {x u v' : Value} (hx : plain x = true) (h : EmpT z x u) {ρ2 : Ren} (hv : VR ρ2 u v') (ρ : Ren) : VR ρ (empV z x) v' := by
  rcases h with ⟨rfl, rfl⟩ | ⟨rfl, b, rfl⟩
  · simp only [empV, cond_true, VR, VRL, sl] at hv ⊢
    obtain ⟨l', ⟨s', r', rfl, ⟨x', e', hx', he', rfl⟩, rfl⟩, rfl⟩ := hv
    subst he'
    have := plain_eq hx hx'
    subst this
    exact ⟨_, ⟨_, _, rfl, ⟨_, _, plain_VR _ hx, rfl, rfl⟩, rfl⟩, rfl⟩
  · simp only [empV, cond_false, VR, VRL, sl] at hv ⊢
    obtain ⟨l', ⟨s', r', ⟨a', c2, rfl, y1, y2, y3⟩, ⟨x', e', hx', he', rfl⟩, rfl⟩, rfl⟩ := hv
    subst he'
    have := plain_eq hx hx'
    subst this
    exact ⟨_, ⟨_, _, ⟨a', c2, rfl, y1, fun e => absurd rfl e, fun e => absurd rfl e⟩, ⟨_, _, plain_VR _ hx, rfl, rfl⟩, rfl⟩, rfl⟩
theorem calls_pairE {f : FuncId} {args0 args' : List Value} {os : List (Option LO)} {ρ1 : Ren} {z : Bool} {x : Value} (hx : plain x = true) (h : LCalls P f args0 (mkH os) (fun u _ => EmpT z x u)) (ha : VRL ρ1 args0 args') (hr1 : Rep ρ1 (mkH os) w) (hro : ∀ i, ρ1.ro i = true) (hr : Rep ρ H w) :
    Calls P f ⟨args'⟩ w (fun e w' => ∃ ρ' v v' H', e = .returned v' ∧ (v = empV z x ∧ H' = H) ∧ Ren.le ρ ρ' ∧ Fresh ρ ρ' w ∧ VR ρ' v v' ∧ Rep ρ' H' w' ∧ Keep ρ w w') := by
  refine (h ρ1 args' w ha hr1).mono ?_
  rintro e w' ⟨ρ2, u, u', K, rfl, hu, h1, h2, h3, h4, h5⟩
  have hbel : Below w.heap.size w w' := ⟨h5.os, h5.tape, h5.output, h5.size, fun k hk => h5.block k hk (fun i _ => hro i)⟩
  exact ⟨ρ, _, u', H, rfl, ⟨rfl, rfl⟩, Ren.le_refl _, Fresh.refl _ _, hu.vr hx h3 ρ, hr.below hbel, Below.toKeep hbel⟩
theorem HGood.both {f : Nat} {args : List Value} {z : Bool} {v : Bool → Value} (h : LCalls P f args H (fun u K => u = v z ∧ K = H)) : HGood P f args H (.tst z (.val (v true)) (.val (v false))) := by
  cases z with
  | true => exact ⟨fun _ => h, fun h => by cases h⟩
  | false => exact ⟨fun h => (by cases h), fun _ => h⟩
structure PairB where
  ok : Bool
  n : Nat
  g : Nat → Int
  x : Value
  z : Bool
def rowsPairE (k : Nat) (mk : Nat → (Nat → Nat → Value) → List Value → PairB) (t : TypeId) (H : Heap) (args : List Value) : ER :=
  match args with
  | x :: rest =>
    match srcR H k x with
    | some (g1, u) => bif Nat.beq H.lock 0 && Nat.blt (H.next + 1) 2147483000 then
        .tst (g1 && (u.csts && (plainL rest && (mk u.n (u.fun k) rest).ok)))
          (.tst (Nat.beq (mk u.n (u.fun k) rest).n 0) (.tst (mk u.n (u.fun k) rest).z (.val (empV true (mk u.n (u.fun k) rest).x)) (.val (empV false (mk u.n (u.fun k) rest).x)))
            (.mem (.tuple ⟨[sl H.next (mk u.n (u.fun k) rest).n, (mk u.n (u.fun k) rest).x]⟩) (H.new (.fn 1 (fun e _ => .int .i64 ((mk u.n (u.fun k) rest).g e)) (mk u.n (u.fun k) rest).n t)))) .no else .no
    | none => .no
  | _ => .no
theorem rowsPairE_good {k : Nat} {t : TypeId} {f : FuncId} {mk : Nat → (Nat → Nat → Value) → List Value → PairB} (hp : ∀ n G r, plain (mk n G r).x = true)
    (hS : ∀ n G r, plainL r = true → (mk n G r).ok = true → (mk n G r).n ≠ 0 → ∃ b, LCalls P f (sls 0 n :: r) (mkH [some (.arg k G n)]) (fun u K => u = .tuple ⟨[sl b (mk n G r).n, (mk n G r).x]⟩ ∧
      (∃ g', K.get b = some (.fn 1 g' (mk n G r).n t) ∧ ∀ e, e < (mk n G r).n → g' e 0 = .int .i64 ((mk n G r).g e)) ∧ K.lock = 0))
    (hZ : ∀ n G r, plainL r = true → (mk n G r).ok = true → (mk n G r).n = 0 → LCalls P f (sls 0 n :: r) (mkH [some (.arg k G n)]) (fun u _ => EmpT (mk n G r).z (mk n G r).x u))
    (hN : ∀ G r, plainL r = true → (mk 0 G r).ok = true → (mk 0 G r).n = 0 ∧ LCalls P f (.slice none 0 0 :: r) (mkH []) (fun u _ => EmpT (mk 0 G r).z (mk 0 G r).x u))
    (H : Heap) (args : List Value) : HGood P f args H (rowsPairE k mk t H args) := by
  unfold rowsPairE
  split
  · rename_i x rest
    cases h1 : srcR H k x with
    | none => exact trivial
    | some gu =>
      obtain ⟨g1, u⟩ := gu
      simp only
      cases hb0 : (Nat.beq H.lock 0 && Nat.blt (H.next + 1) 2147483000) with
      | false => exact trivial
      | true =>
        rw [Bool.and_eq_true] at hb0
        have hb : H.next + 1 < big := by have := hb0.2; unfold big; simpa [Nat.blt_eq] using this
        refine ⟨fun hg => ⟨fun h0 => HGood.both (v := fun z => empV z (mk u.n (u.fun k) rest).x) ?_, fun h0 => ?_⟩, fun _ => trivial⟩
        all_goals
          simp only [Bool.and_eq_true] at hg
          obtain ⟨e1, e2, e3, e4⟩ := hg
          intro ρ args' w ha hr
          haveI := hr.fix.w
          simp only [VRL] at ha
          obtain ⟨x', r', hx, hr', rfl⟩ := ha
          obtain rfl := plainL_eq e3 hr'
        · have h0 := Nat.eq_of_beq_eq_true h0
          rcases nil_or h1 with ⟨rfl, rfl⟩ | ⟨a, n, c, rfl⟩
          · simp only [VR] at hx; subst hx
            exact calls_pairE (ρ1 := rowsRen []) (hp _ _ _) (hN _ r' e3 e4).2 (by simp only [VRL]; exact ⟨_, _, by simp [VR], plainL_VR _ e3, rfl⟩) (rows_rep (rs := []) rfl (by simp) (by simp) (by simp)) (fun _ => rfl) hr
          · obtain ⟨hun, p, hrow⟩ := view_rows hr hx h1 e1 e2
            have hL := hZ u.n (u.fun k) r' e3 e4 h0
            have hpp := hp u.n (u.fun k) r'
            rw [hun] at hL hpp ⊢
            exact calls_pairE (ρ1 := rowsRenW [p] (fun _ => k)) hpp hL (by simp only [VRL]; exact ⟨x', _, VR_sls (slW_VR hrow (by simp)), plainL_VR _ e3, rfl⟩)
              (rowsW_rep (l := [p]) (rs := [(k, u.fun k, n)]) rfl (by simp) (by
                intro i q hq
                rcases i with _ | i
                · simp at hq; exact hrow.low q hq
                · simp at hq) (by
                intro i k2 g2 n2 h0
                rcases i with _ | i
                · simp at h0; obtain ⟨rfl, rfl, rfl⟩ := h0
                  refine ⟨rfl, fun e j he hj => ⟨hrow.one e j he hj, ?_⟩⟩
                  obtain ⟨q, h3, h4⟩ := hrow.cell e j he hj
                  exact ⟨q, by simp [h3], h4⟩
                · simp at h0)) (fun _ => rfl) hr
        · have h0 : (mk u.n (u.fun k) r').n ≠ 0 := fun e => by rw [e] at h0; cases h0
          rcases nil_or h1 with ⟨rfl, rfl⟩ | ⟨a, n, c, rfl⟩
          · exact absurd (hN _ r' e3 e4).1 h0
          · obtain ⟨hun, p, hrow⟩ := view_rows hr hx h1 e1 e2
            obtain ⟨b, hL⟩ := hS u.n (u.fun k) r' e3 e4 h0
            rw [hun] at hL ⊢
            exact calls_pairF (ρ1 := rowsRenW [p] (fun _ => k)) (by rw [← hun]; exact hp _ _ _) (fun e he => rfl) hL (by simp only [VRL]; exact ⟨x', _, VR_sls (slW_VR hrow (by simp)), plainL_VR _ e3, rfl⟩)
              (rowsW_rep (l := [p]) (rs := [(k, u.fun k, n)]) rfl (by simp) (by
                intro i q hq
                rcases i with _ | i
                · simp at hq; exact hrow.low q hq
                · simp at hq) (by
                intro i k2 g2 n2 h0
                rcases i with _ | i
                · simp at h0; obtain ⟨rfl, rfl, rfl⟩ := h0
                  refine ⟨rfl, fun e j he hj => ⟨hrow.one e j he hj, ?_⟩⟩
                  obtain ⟨q, h3, h4⟩ := hrow.cell e j he hj
                  exact ⟨q, by simp [h3], h4⟩
                · simp at h0)) (fun _ => rfl) hr hb
  · exact trivial
end
end Go.Ly
namespace Go.Proofs.Ytdjmpilegommlaa
open Go Go.Ly Go.RowKit
theorem riF_rise {a o : Nat → Int} : ∀ (d i : Nat), riF a o d i = true → ∀ e, i ≤ e → e < i + d → e ≠ 0 → a (e - 1) < a e
  | 0, i, h, e, h1, h2, h3 => by omega
  | d + 1, i, h, e, h1, h2, h3 => by
    unfold riF at h
    cases hb : riB a o i with
    | true => rw [hb] at h; cases h
    | false =>
      rw [hb] at h
      by_cases he : e = i
      · subst he
        unfold riB at hb
        rw [Bool.or_eq_false_iff, show Nat.beq e 0 = false from Bool.eq_false_iff.2 fun h' => h3 (Nat.eq_of_beq_eq_true h')] at hb
        have := hb.1
        simp only [cond_false, decide_eq_false_iff_not] at this
        omega
      · exact riF_rise d (i + 1) h e (by omega) (by omega) h3
theorem so_ri (a o : Nat → Int) (k : Nat) : (soN a (k - 1) && riN k a o) = riN k a o := by
  cases h : riN k a o with
  | false => exact Bool.and_false _
  | true =>
    rw [Bool.and_true]
    refine (soN_spec (k - 1)).2 fun e he => ?_
    have := riF_rise k 0 h (e + 1) (by omega) (by omega) (by omega)
    rw [Nat.add_sub_cancel] at this; omega
theorem so_N2 : endsAt [] (Ly.run cxC 200 [] (Ly.start Try.f31 [.slice none 0 0, soF] (mkH []))) = some ([], .bool true, 0, []) := by kernel_rfl
def lvVn : List Value := slots 156 [(0, .slice none 0 0), (18, .slice none 0 0)]
theorem lvn_0 : headAt [0, 18] [] lvD (Ly.run cxL31 60 [] (Ly.start Try.f14 [.slice none 0 0] (mkH []))) = (true, [], true, (Try.f14, lvK0, none, 0), lvVn, []) := by kernel_rfl
theorem lvn_C : callOf env (mkSt Try.f14 lvK0 none 0 lvVn []) = some (31, [.slice none 0 0, soF]) := by kernel_rfl
def lvKn : List KI := ((Ly.run cxL 1 [] (behind (mkSt Try.f14 lvK0 none 0 lvVn []) (.bool true) H0)).st lvD).top.k
def lvVm : List Value := slots 156 [(0, .slice none 0 0), (19, .bool true), (20, .bool false)]
theorem lvn_G (H : Heap) : haltF [0, 19, 20] lvD (Ly.run cxL 1 [] (behind (mkSt Try.f14 lvK0 none 0 lvVn []) (.bool true) H)) = (true, [], true, (Try.f14, lvKn, none, 0), lvVm, H) := by kernel_rfl
theorem lvn_few (nx : Nat) : formOf [0, 19, 20] [] (atSt Try.f14 lvKn none 0 lvVm (vH [] [] nx)) = (true, (Try.f14, lvKn, none, 0), lvVm, []) := by kernel_rfl
theorem lvn_E : (Ly.run cxL 300 [] (mkSt Try.f14 lvKn none 0 lvVm [])).out? = some ([], okT 0 0) := by kernel_rfl
theorem live_nil : LCalls Try.prog 14 [.slice none 0 0] (mkH []) (fun u _ => EmpT false (.int .i64 0) u) := by
  refine LCalls_of cxL31_ok lvG (by kernel_rfl) ?_
  refine MWp.head cxL31_ok _ _ _ _ lvn_0 trivial (by intro o ho; cases ho) ?_
  refine MWp.call envOk lvn_C (Ends.of_run cxC_ok 200 _ soG (by kernel_rfl) so_N2 trivial) ?_
  rintro v K ⟨rfl, kn, _, kl⟩
  refine MWp.halted cxL_ok _ _ _ (lvn_G K) trivial ?_
  refine MWp.keepB (bs := []) (os := []) (os' := []) [0, 19, 20] kn kl rfl trivial rfl (lvn_few 0) (by intro o ho; cases ho) ?_
  exact MWp.out cxL_ok 300 _ lvn_E trivial (fun _ => .inr ⟨rfl, 0, rfl⟩)
def lvMk (n : Nat) (G : Nat → Nat → Value) (r : List Value) : PairB := match r with
  | [] => ⟨okN n G && ((List.range n).all fun e => inb (oOf G e)) && Nat.ble n 100, bif riN n (aOf G) (oOf G) then n else 0, livG (aOf G) (oOf G) (nOf G) n, .int .i64 (bif riN n (aOf G) (oOf G) then 0 else 1), !riN n (aOf G) (oOf G)⟩
  | _ => ⟨false, 0, fun _ => 0, .bool false, true⟩
def lvC : Heap → List Value → ER := rowsPairE 3 lvMk 3
theorem lvC_good (H : Heap) (args : List Value) : HGood Try.prog 14 args H (lvC H args) := by
  refine rowsPairE_good (fun n G r => ?_) (fun n G r hp hg h0 => ?_) (fun n G r hp hg h0 => ?_) (fun G r hp hg => ?_) H args
  · unfold lvMk; split <;> simp [plain]
  · unfold lvMk at hg h0 ⊢
    split at hg
    · simp only [Bool.and_eq_true, List.all_eq_true, List.mem_range] at hg
      obtain ⟨h1, h2⟩ := okN_eq hg.1.1
      have hk := Nat.le_of_ble_eq_true hg.2
      have hL := LCalls.argEq h2 (live_good (aOf G) (oOf G) (nOf G) n hk hg.1.2)
      cases hr : riN n (aOf G) (oOf G) with
      | false => rw [hr] at h0; exact absurd rfl h0
      | true =>
        refine ⟨1, hL.mono ?_⟩
        rintro u K (⟨hb, _⟩ | ⟨_, rfl, kl, g', kg, kv⟩)
        · rw [so_ri, hr] at hb; cases hb
        · exact ⟨rfl, ⟨_, kg, fun e he => by rw [kv e he]⟩, kl⟩
    · cases hg
  · unfold lvMk at hg h0 ⊢
    split at hg
    · simp only [Bool.and_eq_true, List.all_eq_true, List.mem_range] at hg
      obtain ⟨h1, h2⟩ := okN_eq hg.1.1
      have hk := Nat.le_of_ble_eq_true hg.2
      have hL := LCalls.argEq h2 (live_good (aOf G) (oOf G) (nOf G) n hk hg.1.2)
      cases hr : riN n (aOf G) (oOf G) with
      | false =>
        refine hL.mono ?_
        rintro u K (⟨_, rfl⟩ | ⟨hb, _⟩)
        · exact .inl ⟨rfl, rfl⟩
        · rw [so_ri, hr] at hb; cases hb
      | true =>
        rw [hr] at h0
        have h0 : n = 0 := h0
        refine hL.mono ?_
        rintro u K (⟨hb, _⟩ | ⟨_, rfl, _⟩)
        · rw [so_ri, hr] at hb; cases hb
        · exact .inr ⟨rfl, 1, by rw [h0]; rfl⟩
    · cases hg
  · unfold lvMk at hg ⊢
    split at hg
    · exact ⟨rfl, live_nil⟩
    · cases hg
end Go.Proofs.Ytdjmpilegommlaa
namespace Go.Proofs.Ytdjmpilegommlaa
open Go Go.Ly Go.RowKit
def cxU : Ctx := (((cxM.withC 18 riC).withH 15 ownC).withH 19 nxC).withH 14 lvC
theorem cxU_ok : cxU.Ok Try.prog := (((cxM_ok.withC riC_good).withH ownC_good).withH nxC_good).withH lvC_good
def lsS0 (a o n : Nat → Int) (k : Nat) : St := Ly.start Try.f5 [sls 0 k] (mkH [some (ndL a o n k)])
def lsD : St := Ly.start Try.f5 [] H0
end Go.Proofs.Ytdjmpilegommlaa
namespace Go.Proofs.Ytdjmpilegommlaa
open Go Go.Ly Go.RowKit
def lsR (a o : Nat → Int) (k : Nat) : Bool := riN k (sh (sh a)) (sh (sh o))
def lsM (a o : Nat → Int) (k : Nat) : Nat := bif lsR a o k then k else 0
def lsG (a o n : Nat → Int) (k : Nat) : Nat → Int := livG (sh (sh a)) (sh (sh o)) (sh (sh n)) k
def lsT1 (a o n : Nat → Int) (k : Nat) : Bool := Nat.ble (0 + k) k && ((okN k (fun e x => ndG (sh a) (sh o) (sh n) (0 + e) x) && ((List.range k).all fun e => inb (sh (sh o) e))) && Nat.ble k 100)
def lsP (l : Path) : Path := (0, false) :: (0, true) :: (0, false) :: (0, true) :: l
def lsTT (a o n : Nat → Int) (k : Nat) (l : List (Bool × Bool)) : List (Bool × Bool) := (decide ((40 : Int) < k), false) :: (rowT a o n k, true) :: (Nat.beq k 0, false) :: (lsT1 a o n k, true) :: l
def lsX (a o : Nat → Int) (k : Nat) : Int := bif lsR a o k then 0 else 1
def lsK : List KI := ((Ly.run cxU 50 (lsP [(0, false), (0, false), (0, false)]) (lsS0 zF zF zF 0)).st lsD).top.k
def lsV (k m : Nat) (i : Int) : List Value := slots 103 [(0, sls 0 k), (3, sl 1 m), (5, .int .i64 i)]
theorem ls_0 (a o n : Nat → Int) (k : Nat) : headAt [0, 3, 5] [0, 2] lsD (Ly.run cxU 50 (lsP [(0, false), (0, false), (0, false)]) (lsS0 a o n k)) = (true, lsTT a o n k [(Nat.beq (lsM a o k) 0, false), (lsX a o k != 0, false), (((lsM a o k : Nat) : Int) != k, false)], true, (Try.f5, lsK, none, 1), lsV k (lsM a o k) 0, [some (ndL a o n k), some (inL (lsG a o n k) (lsM a o k))]) := by kernel_rfl
def rowTr (a o n : Nat → Int) (k : Nat) : Bool := Nat.ble (0 + k) k && (okN k (fun e x => ndG a o n (0 + e) x) && (List.range k).all fun e => inb (sh o e))
theorem ls_B (a o n : Nat → Int) (k : Nat) : (Ly.run cxU 9000 (lsP [(0, true), (0, true), (0, true), (0, true), (0, true)]) (lsS0 a o n k)).out? = some (lsTT a o n k [(Nat.beq (lsM a o k) 0, true), (!lsR a o k, true), (lsX a o k != 0, true), (rowTr a o n k, true), ((!riN k (sh a) (sh o)) == true, true)], .bool true) := by kernel_rfl
theorem ls_Z (a o n : Nat → Int) (k : Nat) : (Ly.run cxU 9000 [(0, true)] (lsS0 a o n k)).out? = some ([(decide ((40 : Int) < k), true)], .bool true) := by kernel_rfl
def lsN (a o n : Nat → Int) (k : Nat) (i : Int) : List Int × Bool := nxF k (sh (sh a)) (sh (sh o)) (sh (sh n)) i
def rowTn (a o n : Nat → Int) (k : Nat) : Bool := Nat.ble (0 + k) k && (okN k (fun e x => ndG (sh a) (sh o) (sh n) (0 + e) x) && (List.range k).all fun e => inb (sh (sh o) e))
def lsO (a o n g : Nat → Int) (k m : Nat) : List (Option LO) := [some (ndL a o n k), some (inL g m)]
def lsRb (f : Nat) (p : Path) (a o n g : Nat → Int) (k m : Nat) (i : Int) : RO := Ly.run cxU f p (mkSt Try.f5 lsK none 1 (lsV k m i) (lsO a o n g k m))
def pLs (x y : Bool) : Path := [(0, true), (0, true), (0, false), (0, true), (0, x), (0, y)]
def lsJ : List KI := ((lsRb 44 (pLs false true) zF zF zF zF 0 0 0).st lsD).top.k
def lsTb (a o n : Nat → Int) (k : Nat) (i : Int) (x y : Bool) : List (Bool × Bool) := [(decide (i < k), true), (rowT a o n k, true), (Nat.beq k 0, false), (rowTn a o n k, true), (Nat.beq (lsN a o n k i).1.length 0, x), ((lsN a o n k i).2, y)]
def lsW (k m : Nat) (i : Int) (t : Value) (w j : Int) : List Value := slots 103 [(0, sls 0 k), (3, sl 1 m), (5, .int .i64 i), (6, t), (8, .int .i64 w), (9, .int .i64 j)]
def lsP3 (a o n g : Nat → Int) (k m : Nat) (i : Int) : List (Option LO) := [some (ndL a o n k), some (inL g m), some (inL (fun e => ((lsN a o n k i).1[e]?).getD 0) (lsN a o n k i).1.length)]
def kLs : List Nat := [0, 3, 5, 6, 8, 9]
theorem lb_1 (a o n g : Nat → Int) (k m : Nat) (i : Int) : headAt kLs [0, 1, 3] lsD (lsRb 44 (pLs false true) a o n g k m i) = (true, lsTb a o n k i false true, true, (Try.f5, lsJ, none, 1), lsW k m i (sl 2 (lsN a o n k i).1.length) 31 0, lsP3 a o n g k m i) := by kernel_rfl
theorem lb_2 (a o n g : Nat → Int) (k m : Nat) (i : Int) : headAt kLs [0, 1, 3] lsD (lsRb 42 (pLs false false) a o n g k m i) = (true, lsTb a o n k i false false, true, (Try.f5, lsJ, none, 1), lsW k m i (sl 2 (lsN a o n k i).1.length) 0 0, lsP3 a o n g k m i) := by kernel_rfl
theorem lb_3 (a o n g : Nat → Int) (k m : Nat) (i : Int) : headAt kLs [0, 1] lsD (lsRb 44 (pLs true true) a o n g k m i) = (true, lsTb a o n k i true true, true, (Try.f5, lsJ, none, 1), lsW k m i (.slice none 0 0) 31 0, lsO a o n g k m) := by kernel_rfl
theorem lb_4 (a o n g : Nat → Int) (k m : Nat) (i : Int) : headAt kLs [0, 1] lsD (lsRb 42 (pLs true false) a o n g k m i) = (true, lsTb a o n k i true false, true, (Try.f5, lsJ, none, 1), lsW k m i (.slice none 0 0) 0 0, lsO a o n g k m) := by kernel_rfl
theorem lb_E (a o n g : Nat → Int) (k m : Nat) (i : Int) : (lsRb 300 [(0, false)] a o n g k m i).out? = some ([(decide (i < k), false)], .bool true) := by kernel_rfl
end Go.Proofs.Ytdjmpilegommlaa
namespace Go.Proofs.Ytdjmpilegommlaa
open Go Go.Ly Go.RowKit
def lsQ (a o n g p : Nat → Int) (k m q : Nat) : List (Option LO) := [some (ndL a o n k), some (inL g m), some (inL p q)]
def lsRc (f : Nat) (pp : Path) (a o n g p : Nat → Int) (k m q : Nat) (i w j : Int) : RO := Ly.run cxU f pp (mkSt Try.f5 lsJ none 1 (lsW k m i (sl 2 q) w j) (lsQ a o n g p k m q))
def lsY (o g : Nat → Int) (w x : Int) : Int := bits .or .i64 (bits .or .i64 w (usesT (o (0 + x.toNat)))) (bits .andNot .i64 (gA g x) (setsT (o (0 + x.toNat))))
def lsTc (o : Nat → Int) (k m q : Nat) (j x : Int) : List (Bool × Bool) := [(decide (j < q), true), (ixB q j, true), (Nat.blt (0 + j.toNat * 1) q, true), (decide (x < 0) == false, true), (ixB q j, true), (Nat.blt (0 + j.toNat * 1) q, true), (decide ((k : Int) ≤ x), false), (ixB q j, true), (Nat.blt (0 + j.toNat * 1) q, true), (ixB k x, true), (Nat.blt (0 + x.toNat) k, true), (inb (o (0 + x.toNat)), true), (ixB q j, true), (Nat.blt (0 + j.toNat * 1) q, true), (ixB m x, true), (Nat.blt (0 + x.toNat * 1) m, true), (inb (o (0 + x.toNat)), true)]
def pLc : Path := [(0, true), (0, true), (0, true), (0, true), (2, true), (1, true), (4, false), (0, true), (0, true), (0, true), (0, true), (0, true), (0, true), (0, true), (0, true), (0, true), (0, true)]
theorem lc_1 (a o n g p : Nat → Int) (k m q : Nat) (i w j : Int) : headAt kLs [0, 1, 2] lsD (lsRc 52 pLc a o n g p k m q i w j) = (true, lsTc o k m q j (gA p j), true, (Try.f5, lsJ, none, 1), lsW k m i (sl 2 q) (lsY o g w (gA p j)) (jW j), lsQ a o n g p k m q) := by kernel_rfl
theorem lc_E (a o n g p : Nat → Int) (k m q : Nat) (i w j : Int) : headAt [0, 3, 5] [0, 1] lsD (lsRc 28 [(0, false), (0, true), (0, true), (0, false)] a o n g p k m q i w j) = (true, [(decide (j < q), false), (ixB m i, true), (Nat.blt (0 + i.toNat * 1) m, true), (gA g i != w, false)], true, (Try.f5, lsK, none, 1), lsV k m (jW i), lsO a o n g k m) := by kernel_rfl
theorem lc_N (a o n g : Nat → Int) (k m : Nat) (i w j : Int) : headAt [0, 3, 5] [0, 1] lsD (Ly.run cxU 28 [(0, false), (0, true), (0, true), (0, false)] (mkSt Try.f5 lsJ none 1 (lsW k m i (.slice none 0 0) w j) (lsO a o n g k m))) = (true, [(decide (j < ((0 : Nat) : Int)), false), (ixB m i, true), (Nat.blt (0 + i.toNat * 1) m, true), (gA g i != w, false)], true, (Try.f5, lsK, none, 1), lsV k m (jW i), lsO a o n g k m) := by kernel_rfl
end Go.Proofs.Ytdjmpilegommlaa
namespace Go.Proofs.Ytdjmpilegommlaa
open Go Go.Ly Go.RowKit
def wF (o : Nat → Int) (g : Nat → Nat) (l : List Nat) (w : Nat) : Nat := l.foldl (fun w e => w ||| inN (usN o) (ssN o) g e) w
theorem wF_base (o : Nat → Int) (g : Nat → Nat) : ∀ (l : List Nat) (w : Nat), Sub w (wF o g l w)
  | [], w => Sub.refl _
  | e :: l, w => (Sub.left w _).trans (wF_base o g l _)
theorem wF_in {o : Nat → Int} {g : Nat → Nat} {e : Nat} : ∀ (l : List Nat) (w : Nat), e ∈ l → Sub (inN (usN o) (ssN o) g e) (wF o g l w)
  | x :: l, w, h => by
    rcases List.mem_cons.1 h with rfl | h
    · exact (Sub.right w _).trans (wF_base o g l _)
    · exact wF_in l _ h
theorem wF_sub {o : Nat → Int} {g : Nat → Nat} {z : Nat} : ∀ (l : List Nat) (w : Nat), Sub w z → (∀ e ∈ l, Sub (inN (usN o) (ssN o) g e) z) → Sub (wF o g l w) z
  | [], w, h, _ => h
  | x :: l, w, h, hl => wF_sub l _ (Sub.or h (hl x (by simp))) (fun e he => hl e (by simp [he]))
theorem LeastL.fix {a o n : Nat → Int} {k : Nat} {g : Nat → Nat} (h : LeastL a o n k g) {x : Nat} (hx : x < k) : wF o g (toL a o n k x) (bsN a o n k x) = g x := by
  have up : ∀ y, y < k → Sub (wF o g (toL a o n k y) (bsN a o n k y)) (g y) := fun y hy =>
    wF_sub _ _ (h.pre.base y hy) fun e he => h.pre.edge e y (toL_in he) (prL_in.2 ⟨hy, he⟩)
  refine (up x hx).anti (h.least (fun y => wF o g (toL a o n k y) (bsN a o n k y)) ⟨fun y _ => wF_base o g _ _, fun e y he hy => ?_⟩ x hx)
  exact (inN_sub (up e he)).trans (wF_in _ _ (prL_in.1 hy).2)
theorem lsY_c {o : Nat → Int} {g : Nat → Nat} {w e : Nat} (h : inb (o e) = true) (hw : w < 32) (hg : g e < 32) : lsY o (castF g) (w : Int) (e : Int) = ((w ||| inN (usN o) (ssN o) g e : Nat) : Int) := by
  unfold lsY
  rw [show 0 + ((e : Int)).toNat = e by omega, gA_at, usN_c h, ssN_c h, bits_or hw (usN_lt o e)]
  show bits .or .i64 ((w ||| usN o e : Nat) : Int) (bits .andNot .i64 (g e : Int) (ssN o e : Int)) = _
  rw [bits_an hg (ssN_lt o e), bits_or (or_lt hw (usN_lt o e)) (and_lt _ hg)]
  unfold inN; rw [Nat.or_assoc]
theorem ls_P (a o n g p : Nat → Int) (k m q : Nat) : ∀ y ∈ lsQ a o n g p k m q, ∀ z, y = some z → plainO z := by
  intro y hy z hz
  simp only [lsQ, List.mem_cons, List.not_mem_nil, or_false] at hy
  rcases hy with rfl | rfl | rfl <;> (simp only [Option.some.injEq] at hz; subst hz)
  · exact plain_ndL _ _ _ _
  · intro e j; simp [noBlk, blks]
  · intro e j; simp [noBlk, blks]
theorem ls_P2 (a o n g : Nat → Int) (k m : Nat) : ∀ y ∈ lsO a o n g k m, ∀ z, y = some z → plainO z := by
  intro y hy z hz
  simp only [lsO, List.mem_cons, List.not_mem_nil, or_false] at hy
  rcases hy with rfl | rfl <;> (simp only [Option.some.injEq] at hz; subst hz)
  · exact plain_ndL _ _ _ _
  · intro e j; simp [noBlk, blks]
section
variable {Q : Value → Heap → Prop} {a o n : Nat → Int} {k : Nat} {g : Nat → Nat}
theorem ls_in (hk : k ≤ 100) (ho : ∀ e, e < k → inb (o e) = true) (hg : ∀ e, g e < 32) {i : Nat} (hi : i < k) {T : List Nat} (hT : ∀ e ∈ T, e < k) (hTl : T.length ≤ 2)
    (hs : MWp Try.prog (mkSt Try.f5 lsK none 1 (lsV k k ((i + 1 : Nat) : Int)) (lsO a o n (castF g) k k)) Q) : ∀ (d j w : Nat), j + d = T.length → w < 32 → wF o g (T.drop j) w = g i →
    MWp Try.prog (mkSt Try.f5 lsJ none 1 (lsW k k i (sl 2 T.length) w j) (lsQ a o n (castF g) (lg T) k k T.length)) Q
  | 0, j, w, hd, hw, he => by
    rw [List.drop_eq_nil_of_le (by omega)] at he
    have he : w = g i := he
    obtain ⟨i1, i2, i3, i4⟩ := ix_tests hi
    have i5 : Nat.blt (0 + ((i : Int)).toNat * 1) k = true := by rw [Nat.blt_eq]; omega
    have hjw : jW (i : Int) = ((i + 1 : Nat) : Int) := by unfold jW; rw [IntKind.wrap_i64]; omega
    rw [← hjw] at hs
    refine MWp.head cxU_ok _ _ _ _ (lc_E a o n (castF g) (lg T) k k T.length i w j) ?_ (ls_P2 a o n (castF g) k k) hs
    have e1 : decide ((j : Int) < (T.length : Nat)) = false := by rw [decide_eq_false_iff_not]; omega
    have e2 : (gA (castF g) (i : Int) != (w : Int)) = false := by rw [gA_at, he]; simp [castF]
    simp only [trusted, e1, e2, i2, i5, and_self]
  | d + 1, j, w, hd, hw, he => by
    have hj : j < T.length := by omega
    have ed : T.drop j = T[j] :: T.drop (j + 1) := List.drop_eq_getElem_cons hj
    rw [ed] at he
    have hx : T[j] < k := hT _ (List.getElem_mem hj)
    obtain ⟨x1, x2, x3, x4⟩ := ix_tests hx
    obtain ⟨j1, j2, j3, j4⟩ := ix_tests hj
    have j5 : Nat.blt (0 + ((j : Int)).toNat * 1) T.length = true := by rw [Nat.blt_eq]; omega
    have x5 : Nat.blt (0 + ((T[j] : Nat) : Int).toNat * 1) k = true := by rw [Nat.blt_eq]; omega
    have hgx : gA (lg T) (j : Int) = ((T[j] : Nat) : Int) := by rw [gA_at]; exact lg_at (List.getElem?_eq_getElem hj)
    have hjw : jW (j : Int) = ((j + 1 : Nat) : Int) := by unfold jW; rw [IntKind.wrap_i64]; omega
    have hin : inb (o (0 + ((T[j] : Nat) : Int).toNat)) = true := by rw [x3]; exact ho _ hx
    have c1 : (decide (((T[j] : Nat) : Int) < 0) == false) = true := by simp
    have c2 : decide ((k : Int) ≤ ((T[j] : Nat) : Int)) = false := by rw [decide_eq_false_iff_not]; omega
    refine MWp.head cxU_ok _ _ _ _ (lc_1 a o n (castF g) (lg T) k k T.length i w j) ?_ (ls_P a o n (castF g) (lg T) k k T.length) ?_
    · simp only [lsTc, trusted, hgx, j1, j2, j5, x2, x3, x4, x5, hin, c1, c2, ho _ hx, and_self]
    · rw [hjw, hgx, lsY_c (ho _ hx) hw (hg _)]
      exact ls_in hk ho hg hi hT hTl hs d (j + 1) _ (by omega) (or_lt hw (or_lt (usN_lt o _) (and_lt _ (hg _)))) he
end
end Go.Proofs.Ytdjmpilegommlaa
namespace Go.Proofs.Ytdjmpilegommlaa
open Go Go.Ly Go.RowKit
theorem lsN_eq (a o n : Nat → Int) (k : Nat) (i : Int) : lsN a o n k i = nxS a o n k i := by unfold lsN nxS; rw [sh_eq, sh_eq, sh_eq, sh_eq, sh_eq, sh_eq]
theorem ndG_0 (a o n : Nat → Int) : (fun e x => ndG a o n (0 + e) x) = ndG a o n := by funext e x; simp
theorem rowT_ok {a o n : Nat → Int} {k : Nat} (hk : k ≤ 100) : rowT a o n k = true := by unfold rowT; rw [ndG_0, okN_nd _ _ _ (by omega)]; simp
theorem rowTn_ok {a o n : Nat → Int} {k : Nat} (hk : k ≤ 100) (ho : ∀ e, e < k → inb (o e) = true) : rowTn a o n k = true := by
  unfold rowTn; rw [sh_eq, sh_eq, sh_eq, sh_eq, ndG_0, okN_nd _ _ _ (by omega), List.all_eq_true.2 (fun e he => ho e (List.mem_range.1 he))]; simp
theorem ls_out {a o n : Nat → Int} {k : Nat} {g : Nat → Nat} (hk : k ≤ 100) (hk0 : k ≠ 0) (ho : ∀ e, e < k → inb (o e) = true) (hL : LeastL a o n k g) : ∀ (d i : Nat), i + d = k →
    MWp Try.prog (mkSt Try.f5 lsK none 1 (lsV k k i) (lsO a o n (castF g) k k)) (fun v _ => v = .bool true)
  | 0, i, hd => by
    obtain rfl : i = k := by omega
    exact MWp.out cxU_ok 300 _ (lb_E a o n (castF g) i i i) (by simp only [trusted, show decide (((i : Nat) : Int) < (i : Nat)) = false by rw [decide_eq_false_iff_not]; omega, and_self]) (fun _ => rfl)
  | d + 1, i, hd => by
    have hi : i < k := by omega
    obtain ⟨i1, i2, i3, i4⟩ := ix_tests hi
    have i5 : Nat.blt (0 + ((i : Int)).toNat * 1) k = true := by rw [Nat.blt_eq]; omega
    have hjw : jW (i : Int) = ((i + 1 : Nat) : Int) := by unfold jW; rw [IntKind.wrap_i64]; omega
    have hb : Nat.beq k 0 = false := Bool.eq_false_iff.2 fun h => hk0 (Nat.eq_of_beq_eq_true h)
    have r1 : rowT a o n k = true := rowT_ok hk
    have r2 : rowTn a o n k = true := rowTn_ok hk ho
    have next := ls_out hk hk0 ho hL d (i + 1) (by omega)
    have fx := hL.fix hi
    have hl : (lsN a o n k i).1.length = (toL a o n k i).length := by rw [lsN_eq, toL_len]; rfl
    have hp : (fun e => ((lsN a o n k i).1[e]?).getD 0) = lg (toL a o n k i) := by rw [lsN_eq]; exact toL_g a o n k i
    have hop : (lsN a o n k i).2 = opL a o n k i := by rw [lsN_eq]; rfl
    have hbs : bsN a o n k i = bif opL a o n k i then 31 else 0 := by unfold bsN; rw [i4, Bool.true_and]
    have row : ∀ w : Nat, w < 32 → w = bsN a o n k i → MWp Try.prog (mkSt Try.f5 lsJ none 1 (lsW k k i (sl 2 (lsN a o n k i).1.length) w 0) (lsP3 a o n (castF g) k k i)) (fun v _ => v = .bool true) := by
      intro w hw he
      show MWp Try.prog (mkSt Try.f5 lsJ none 1 (lsW k k i (sl 2 (lsN a o n k i).1.length) w 0) [some (ndL a o n k), some (inL (castF g) k), some (inL (fun e => ((lsN a o n k i).1[e]?).getD 0) (lsN a o n k i).1.length)]) _
      rw [hp, hl]
      exact ls_in hk ho hL.lt hi (fun e he => toL_in he) (toL_two a o n k i) next (toL a o n k i).length 0 w (by omega) hw (by rw [List.drop_zero, he]; exact fx)
    have nil : ∀ w : Nat, toL a o n k i = [] → w = bsN a o n k i → MWp Try.prog (mkSt Try.f5 lsJ none 1 (lsW k k i (.slice none 0 0) w 0) (lsO a o n (castF g) k k)) (fun v _ => v = .bool true) := by
      intro w hn he
      rw [hn] at fx
      have fx : bsN a o n k i = g i := fx
      refine MWp.head cxU_ok _ _ _ _ (lc_N a o n (castF g) k k i w 0) ?_ (ls_P2 a o n (castF g) k k) (by rw [hjw]; exact next)
      have e2 : (gA (castF g) (i : Int) != (w : Int)) = false := by rw [gA_at, he, fx]; simp [castF]
      simp only [trusted, e2, i2, i5, show decide ((0 : Int) < ((0 : Nat) : Int)) = false from rfl, and_self]
    cases hz : Nat.beq (lsN a o n k i).1.length 0 with
    | false =>
      cases hy : opL a o n k i with
      | true =>
        rw [hy] at hop hbs
        refine MWp.head cxU_ok _ _ _ _ (lb_1 a o n (castF g) k k i) (by simp only [lsTb, trusted, i1, r1, hb, r2, hz, hop, and_self]) ?_ (row 31 (by decide) (by rw [hbs]; rfl))
        exact ls_P a o n (castF g) _ k k _
      | false =>
        rw [hy] at hop hbs
        refine MWp.head cxU_ok _ _ _ _ (lb_2 a o n (castF g) k k i) (by simp only [lsTb, trusted, i1, r1, hb, r2, hz, hop, and_self]) ?_ (row 0 (by decide) (by rw [hbs]; rfl))
        exact ls_P a o n (castF g) _ k k _
    | true =>
      have hn : toL a o n k i = [] := List.eq_nil_of_length_eq_zero (by rw [← hl]; exact Nat.eq_of_beq_eq_true hz)
      cases hy : opL a o n k i with
      | true =>
        rw [hy] at hop hbs
        exact MWp.head cxU_ok _ _ _ _ (lb_3 a o n (castF g) k k i) (by simp only [lsTb, trusted, i1, r1, hb, r2, hz, hop, and_self]) (ls_P2 a o n (castF g) k k) (nil 31 hn (by rw [hbs]; rfl))
      | false =>
        rw [hy] at hop hbs
        exact MWp.head cxU_ok _ _ _ _ (lb_4 a o n (castF g) k k i) (by simp only [lsTb, trusted, i1, r1, hb, r2, hz, hop, and_self]) (ls_P2 a o n (castF g) k k) (nil 0 hn (by rw [hbs]; rfl))
end Go.Proofs.Ytdjmpilegommlaa
namespace Go.Proofs.Ytdjmpilegommlaa
open Go Go.Ly Go.RowKit
theorem ls_K0 (a o n : Nat → Int) : (Ly.run cxU 9000 [] (lsS0 a o n 0)).out? = some ([], .bool true) := by kernel_rfl
theorem ls_nil : (Ly.run cxU 9000 [] (Ly.start Try.f5 [.slice none 0 0] (mkH []))).out? = some ([], .bool true) := by kernel_rfl
theorem lsg5 : cxU.fn.get 5 = some Try.f5 := by kernel_rfl
theorem less_calls (a o n : Nat → Int) (k : Nat) (ho : ∀ e, e < k → inb (o e) = true) : LCalls Try.prog 5 [sls 0 k] (mkH [some (ndL a o n k)]) (fun u _ => u = .bool true) := by
  refine LCalls_of cxU_ok lsg5 (by kernel_rfl) ?_
  show MWp Try.prog (lsS0 a o n k) _
  by_cases h40 : (40 : Int) < k
  · exact MWp.out cxU_ok 9000 _ (ls_Z a o n k) (by simp only [trusted, decide_eq_true h40, and_self]) (fun _ => rfl)
  by_cases hk0 : k = 0
  · subst hk0; exact MWp.out cxU_ok 9000 _ (ls_K0 a o n) trivial (fun _ => rfl)
  have hk : k ≤ 100 := by omega
  have hb : Nat.beq k 0 = false := Bool.eq_false_iff.2 fun h => hk0 (Nat.eq_of_beq_eq_true h)
  have r1 : rowT a o n k = true := rowT_ok hk
  have r2 : rowTn a o n k = true := rowTn_ok hk ho
  have r3 : lsT1 a o n k = true := by
    unfold lsT1; rw [sh_eq, sh_eq, sh_eq, sh_eq, ndG_0, okN_nd _ _ _ (by omega), List.all_eq_true.2 (fun e he => ho e (List.mem_range.1 he)), show Nat.ble k 100 = true from Nat.ble_eq_true_of_le hk]; simp
  have r4 : rowTr a o n k = true := by
    unfold rowTr; rw [sh_eq, ndG_0, okN_nd _ _ _ (by omega), List.all_eq_true.2 (fun e he => ho e (List.mem_range.1 he))]; simp
  have eR : lsR a o k = riN k a o := by unfold lsR; rw [sh_eq, sh_eq, sh_eq, sh_eq]
  have h4 : decide ((40 : Int) < k) = false := decide_eq_false h40
  cases hR : riN k a o with
  | false =>
    have eM : lsM a o k = 0 := by unfold lsM; rw [eR, hR]; rfl
    have eX : (lsX a o k != 0) = true := by unfold lsX; rw [eR, hR]; rfl
    have e5 : ((!riN k (sh a) (sh o)) == true) = true := by rw [sh_eq, sh_eq, hR]; rfl
    exact MWp.out cxU_ok 9000 _ (ls_B a o n k) (by simp only [lsTT, trusted, h4, r1, hb, r3, eM, eX, e5, r4, eR, hR, Nat.beq_refl, Bool.not_false, and_self]) (fun _ => rfl)
  | true =>
    have eM : lsM a o k = k := by unfold lsM; rw [eR, hR]; rfl
    have eX : (lsX a o k != 0) = false := by unfold lsX; rw [eR, hR]; rfl
    have eG : lsG a o n k = castF (livN a o n k) := by unfold lsG livG; rw [sh_eq, sh_eq, sh_eq, sh_eq, sh_eq, sh_eq]
    refine MWp.head cxU_ok _ _ _ _ (ls_0 a o n k) (by simp only [lsTT, trusted, h4, r1, hb, r3, eM, eX, bne_self_eq_false, and_self]) (ls_P2 a o n (lsG a o n k) k (lsM a o k)) ?_
    rw [eM, eG]
    exact ls_out hk hk0 ho (livN_least a o n k) k 0 (by omega)
theorem less_nil : LCalls Try.prog 5 [.slice none 0 0] (mkH []) (fun u _ => u = .bool true) := by
  refine LCalls_of cxU_ok lsg5 (by kernel_rfl) ?_
  exact MWp.out cxU_ok 9000 _ ls_nil trivial (fun _ => rfl)
theorem ck_node {W : World} {v : Value} (h : CkOk W (.slice [.int .u16, .int .u8, .int .u16]) v) : v = .slice none 0 0 ∨ ∃ (k : Nat) (a o n : Nat → Int) (p : Option Plc), RealRows W 3 (ndG a o n) k v p ∧ (∀ e, e < k → inb (o e) = true) := by
  rcases ck_rows (by rfl) (by decide) h with rfl | ⟨k, F, p, hr, hc, _⟩
  · exact .inl rfl
  · have hF : ∀ e, e < k → ∃ x y u, F e = [.int .u16 x, .int .u8 y, .int .u16 u] ∧ inb y = true := by
      intro e he
      have h1 := hc e he
      simp only [CksOk, CkOk] at h1
      obtain ⟨_, _, e1, ⟨x, rfl, hx⟩, _, _, rfl, ⟨y, rfl, hy⟩, _, _, rfl, ⟨u, rfl, hu⟩, rfl⟩ := h1
      have hy := bounds_u8 hy
      exact ⟨x, y, u, e1, by simp [inb]; omega⟩
    refine .inr ⟨k, fun e => intV (((F e)[0]?).getD undef), fun e => intV (((F e)[1]?).getD undef), fun e => intV (((F e)[2]?).getD undef), p, hr.congr (fun e j he hj => ?_), fun e he => ?_⟩
    · obtain ⟨x, y, u, e1, _⟩ := hF e he
      have hj : j < 3 := hj
      simp only [ndG, e1]
      have : j = 0 ∨ j = 1 ∨ j = 2 := by omega
      rcases this with rfl | rfl | rfl <;> rfl
    · obtain ⟨x, y, u, e1, b1⟩ := hF e he
      simp only [e1]; exact b1
theorem less_walk (W : World) (v0 : Value) (h0 : CkOk W (.slice [.int .u16, .int .u8, .int .u16]) v0) : Calls Try.prog 5 #[v0] W fun e W' => e = .returned (.bool true) ∧ Below W.heap.size W W' := by
  rcases ck_node h0 with rfl | ⟨k, a, o, n, pl, hr, hb⟩
  · exact calls_ro (ρ := rowsRen []) less_nil rfl (by simp [VRL, VR]) (rows_rep (rs := []) rfl (by simp) (by simp) (by simp)) (fun _ => rfl)
  · exact calls_ro (ρ := rowsRenW [pl] (fun _ => 3)) (less_calls a o n k hb) rfl
      (by simp only [VRL]; exact ⟨v0, _, VR_sls (slW_VR hr (by simp)), rfl, rfl⟩)
      (rowsW_rep (l := [pl]) (rs := [(3, ndG a o n, k)]) rfl (by simp) (by
        intro j q hq
        rcases j with _ | j
        · simp at hq; exact hr.low q hq
        · simp at hq) (by
        intro j k2 g2 n2 h0
        rcases j with _ | j
        · simp at h0; obtain ⟨rfl, rfl, rfl⟩ := h0
          refine ⟨rfl, fun e j he hj => ⟨hr.one e j he hj, ?_⟩⟩
          obtain ⟨q, h3, h4⟩ := hr.cell e j he hj
          exact ⟨q, by simp [h3], h4⟩
        · simp at h0)) (fun _ => rfl)
end Go.Proofs.Ytdjmpilegommlaa
end
