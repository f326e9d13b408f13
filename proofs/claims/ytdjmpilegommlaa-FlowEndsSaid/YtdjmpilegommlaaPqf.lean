/- Part 6 of the texts that the law needs, laid together. By program (pack.py). -/
import Derived.Test.YtdjmpilegommlaaPqd
import Derived.Test.YtdjmpilegommlaaPqe
import Derived.KernelRfl
import Derived.OpenShut
set_option linter.unusedVariables false
set_option linter.unusedSimpArgs false
noncomputable section
namespace Go.Proofs.Ytdjmpilegommlaa
open Go Go.Ly Go.RowKit
theorem or_tab : ((List.range 32).all fun x => (List.range 32).all fun y => bits .or .i64 (x : Nat) (y : Nat) == ((x ||| y : Nat) : Int)) = true := by kernel_rfl
theorem an_tab : ((List.range 32).all fun x => (List.range 32).all fun y => bits .andNot .i64 (x : Nat) (y : Nat) == ((x &&& (31 - y) : Nat) : Int)) = true := by kernel_rfl
theorem bits_or {x y : Nat} (hx : x < 32) (hy : y < 32) : bits .or .i64 (x : Int) (y : Int) = ((x ||| y : Nat) : Int) := by
  have := List.all_eq_true.1 (List.all_eq_true.1 or_tab x (List.mem_range.2 hx)) y (List.mem_range.2 hy)
  simpa using this
theorem bits_an {x y : Nat} (hx : x < 32) (hy : y < 32) : bits .andNot .i64 (x : Int) (y : Int) = ((x &&& (31 - y) : Nat) : Int) := by
  have := List.all_eq_true.1 (List.all_eq_true.1 an_tab x (List.mem_range.2 hx)) y (List.mem_range.2 hy)
  simpa using this
theorem us_tab : ((List.range 256).all fun x => (decide (0 ≤ usesT (x : Nat)) && decide (usesT (x : Nat) ≤ 31)) && (decide (0 ≤ setsT (x : Nat)) && decide (setsT (x : Nat) ≤ 31))) = true := by kernel_rfl
theorem us_in {x : Int} (h : inb x = true) : 0 ≤ usesT x ∧ usesT x ≤ 31 ∧ 0 ≤ setsT x ∧ setsT x ≤ 31 := by
  have h1 : 0 ≤ x ∧ x ≤ 255 := by simpa [inb] using h
  obtain ⟨n, rfl⟩ := Int.eq_ofNat_of_zero_le h1.1
  have := List.all_eq_true.1 us_tab n (List.mem_range.2 (by omega))
  simp only [Bool.and_eq_true, decide_eq_true_eq] at this
  exact ⟨this.1.1, this.1.2, this.2.1, this.2.2⟩
def Sub (x y : Nat) : Prop := x ||| y = y
theorem Sub.refl (x : Nat) : Sub x x := Nat.or_self x
theorem Sub.trans {x y z : Nat} (h1 : Sub x y) (h2 : Sub y z) : Sub x z := by
  unfold Sub at *; rw [← h2, ← Nat.or_assoc, h1]
theorem Sub.or {x y z : Nat} (h1 : Sub x z) (h2 : Sub y z) : Sub (x ||| y) z := by
  unfold Sub at *; rw [Nat.or_assoc, h2, h1]
theorem Sub.left (x y : Nat) : Sub x (x ||| y) := by unfold Sub; rw [← Nat.or_assoc, Nat.or_self]
theorem Sub.right (x y : Nat) : Sub y (x ||| y) := by unfold Sub; rw [Nat.or_comm x y]; exact Sub.left y x
theorem Sub.anti {x y : Nat} (h1 : Sub x y) (h2 : Sub y x) : x = y := by unfold Sub at *; rw [← h2, Nat.or_comm]; exact h1
theorem Sub.and {x y : Nat} (m : Nat) (h : Sub x y) : Sub (x &&& m) (y &&& m) := by unfold Sub at *; rw [← Nat.and_or_distrib_right, h]
theorem Sub.zero (y : Nat) : Sub 0 y := Nat.zero_or y
theorem or_lt {x y : Nat} (hx : x < 32) (hy : y < 32) : x ||| y < 32 := Nat.or_lt_two_pow (n := 5) hx hy
theorem and_lt {x : Nat} (y : Nat) (hx : x < 32) : x &&& y < 32 := Nat.lt_of_le_of_lt Nat.and_le_left hx
section
variable (us ss : Nat → Nat) (bs : Nat → Nat) (P : Nat → List Nat) (k : Nat)
def inN (h : Nat → Nat) (e : Nat) : Nat := us e ||| (h e &&& (31 - ss e))
structure Pre (h : Nat → Nat) : Prop where
  base : ∀ x, x < k → Sub (bs x) (h x)
  edge : ∀ e x, e < k → x ∈ P e → Sub (inN us ss h e) (h x)
structure Least (g : Nat → Nat) : Prop where
  pre : Pre us ss bs P k g
  least : ∀ h, Pre us ss bs P k h → ∀ x, x < k → Sub (g x) (h x)
  lt : ∀ e, g e < 32
def mu (g : Nat → Nat) : Nat → Nat
  | 0 => 0
  | i + 1 => mu g i + (31 - g i)
theorem mu_le {g g' : Nat → Nat} (h : ∀ e, g e ≤ g' e) : ∀ k, mu g' k ≤ mu g k
  | 0 => Nat.le_refl _
  | i + 1 => by have := mu_le h i; have := h i; simp only [mu]; omega
theorem mu_lt {g g' : Nat → Nat} (h : ∀ e, g e ≤ g' e) (hl : ∀ e, g' e < 32) {x : Nat} (hx : g x < g' x) : ∀ k, x < k → mu g' k + 1 ≤ mu g k
  | 0, h => by omega
  | i + 1, hk => by
    simp only [mu]
    by_cases he : x = i
    · subst he
      have := mu_le h x; have := hl x; omega
    · have := mu_lt h hl hx i (by omega); have := h i; omega
def pV (v : Nat) (s : (Nat → Nat) × List Nat) (x : Nat) : (Nat → Nat) × List Nat :=
  if s.1 x ||| v = s.1 x then s else (fun e => if e = x then s.1 x ||| v else s.1 e, s.2 ++ [x])
structure FI (g : Nat → Nat) (ws : List Nat) (v : Nat) (D : Nat → Prop) (s : (Nat → Nat) × List Nat) : Prop where
  up : ∀ e, Sub (g e) (s.1 e)
  lt : ∀ e, s.1 e < 32
  old : ∀ x ∈ ws, x ∈ s.2
  wk : ∀ x ∈ s.2, x < k
  dn : ∀ x, D x → Sub v (s.1 x)
  eq : ∀ e, e ∉ s.2 → s.1 e = g e
  le : ∀ h, Pre us ss bs P k h → ∀ x, x < k → Sub (s.1 x) (h x)
  less : mu s.1 k + s.2.length ≤ mu g k + ws.length
variable {us ss bs P k}
theorem FI.step {g : Nat → Nat} {ws : List Nat} {v x : Nat} {D : Nat → Prop} {s : (Nat → Nat) × List Nat} (h : FI us ss bs P k g ws v D s) (hx : x < k) (hv : v < 32) (hle : ∀ h, Pre us ss bs P k h → Sub v (h x)) :
    FI us ss bs P k g ws v (fun y => D y ∨ y = x) (pV v s x) := by
  unfold pV
  split
  · rename_i he
    refine ⟨h.up, h.lt, h.old, h.wk, fun y hy => ?_, h.eq, h.le, h.less⟩
    rcases hy with hy | rfl
    · exact h.dn y hy
    · show v ||| s.1 y = s.1 y; rw [Nat.or_comm]; exact he
  · rename_i he
    have hsub : ∀ e, Sub (s.1 e) (if e = x then s.1 x ||| v else s.1 e) := fun e => by
      by_cases hex : e = x
      · subst hex; rw [if_pos rfl]; exact Sub.left _ _
      · rw [if_neg hex]; exact Sub.refl _
    have hlt : ∀ e, (if e = x then s.1 x ||| v else s.1 e) < 32 := fun e => by
      split
      · exact or_lt (h.lt x) hv
      · exact h.lt e
    refine ⟨fun e => (h.up e).trans (hsub e), hlt, fun y hy => by simp [h.old y hy], fun y hy => ?_, fun y hy => ?_, fun e hn => ?_, fun q hq y hy => ?_, ?_⟩
    · rcases List.mem_append.1 hy with hy | hy
      · exact h.wk y hy
      · rw [List.mem_singleton] at hy; omega
    · rcases hy with hy | rfl
      · exact (h.dn y hy).trans (hsub y)
      · show Sub v (if y = y then s.1 y ||| v else s.1 y); rw [if_pos rfl]; exact Sub.right _ _
    · have hn : e ∉ s.2 ∧ e ≠ x := by simpa using hn
      show (if e = x then s.1 x ||| v else s.1 e) = g e
      rw [if_neg hn.2]; exact h.eq e hn.1
    · show Sub (if y = x then s.1 x ||| v else s.1 y) (q y)
      by_cases hyx : y = x
      · subst hyx; rw [if_pos rfl]; exact Sub.or (h.le q hq y hy) (hle q hq)
      · rw [if_neg hyx]; exact h.le q hq y hy
    · have hm := h.less
      have hle' : ∀ e, s.1 e ≤ (if e = x then s.1 x ||| v else s.1 e) := fun e => by
        split
        · rename_i e'; subst e'; exact Nat.left_le_or
        · exact Nat.le_refl _
      have := mu_lt (g := s.1) (g' := fun e => if e = x then s.1 x ||| v else s.1 e) hle' hlt (x := x) (by
        show s.1 x < (if x = x then s.1 x ||| v else s.1 x)
        rw [if_pos rfl]
        have h1 : s.1 x ≤ s.1 x ||| v := Nat.left_le_or
        omega) k hx
      rw [List.length_append, List.length_singleton]
      show mu (fun e => if e = x then s.1 x ||| v else s.1 e) k + _ ≤ _
      omega
theorem FI.all {g : Nat → Nat} {ws : List Nat} {v : Nat} (hv : v < 32) : ∀ (l : List Nat) (D : Nat → Prop) (s : (Nat → Nat) × List Nat), FI us ss bs P k g ws v D s → (∀ x ∈ l, x < k ∧ ∀ h, Pre us ss bs P k h → Sub v (h x)) →
    FI us ss bs P k g ws v (fun y => D y ∨ y ∈ l) (l.foldl (pV v) s)
  | [], D, s, h, hl => ⟨h.up, h.lt, h.old, h.wk, fun x hx => h.dn x (by simpa using hx), h.eq, h.le, h.less⟩
  | x :: l, D, s, h, hl => by
    have h1 := h.step (hl x (by simp)).1 hv (hl x (by simp)).2
    have h2 := FI.all hv l _ _ h1 (fun y hy => hl y (by simp [hy]))
    exact ⟨h2.up, h2.lt, h2.old, h2.wk, fun y hy => h2.dn y (by simp only [List.mem_cons] at hy; rcases hy with h | h | h; exact .inl (.inl h); exact .inl (.inr h); exact .inr h), h2.eq, h2.le, h2.less⟩
structure Inv (us ss bs : Nat → Nat) (P : Nat → List Nat) (k : Nat) (g : Nat → Nat) (ws : List Nat) : Prop where
  base : ∀ x, x < k → Sub (bs x) (g x)
  edge : ∀ e x, e < k → e ∉ ws → x ∈ P e → Sub (inN us ss g e) (g x)
  least : ∀ h, Pre us ss bs P k h → ∀ x, x < k → Sub (g x) (h x)
  lt : ∀ e, g e < 32
  wk : ∀ x ∈ ws, x < k
theorem inN_sub {g h : Nat → Nat} {e : Nat} (hs : Sub (g e) (h e)) : Sub (inN us ss g e) (inN us ss h e) :=
  Sub.or (Sub.left _ _) ((hs.and _).trans (Sub.right _ _))
theorem inN_eq {g h : Nat → Nat} {e : Nat} (he : h e = g e) : inN us ss h e = inN us ss g e := by unfold inN; rw [he]
theorem Inv.step {g : Nat → Nat} {ws : List Nat} {i : Nat} (hus : ∀ e, us e < 32) (hPk : ∀ e x, x ∈ P e → x < k) (h : Inv us ss bs P k g (ws ++ [i])) :
    Inv us ss bs P k ((P i).foldl (pV (inN us ss g i)) (g, ws)).1 ((P i).foldl (pV (inN us ss g i)) (g, ws)).2 ∧
    mu ((P i).foldl (pV (inN us ss g i)) (g, ws)).1 k + ((P i).foldl (pV (inN us ss g i)) (g, ws)).2.length ≤ mu g k + ws.length := by
  have hi : i < k := h.wk i (by simp)
  have hv : inN us ss g i < 32 := or_lt (hus i) (and_lt _ (h.lt i))
  have h0 : FI us ss bs P k g ws (inN us ss g i) (fun _ => False) (g, ws) := ⟨fun e => Sub.refl _, h.lt, fun x hx => hx, fun x hx => h.wk x (by simp [hx]), fun x hx => hx.elim, fun e _ => rfl, h.least, Nat.le_refl _⟩
  have hF := FI.all hv (P i) _ _ h0 (fun x hx => ⟨hPk i x hx, fun q hq => (inN_sub (h.least q hq i hi)).trans (hq.edge i x hi hx)⟩)
  refine ⟨⟨fun x hx => (h.base x hx).trans (hF.up x), fun e x he hn hx => ?_, hF.le, hF.lt, hF.wk⟩, hF.less⟩
  have e1 := hF.eq e hn
  have e2 : inN us ss ((P i).foldl (pV (inN us ss g i)) (g, ws)).1 e = inN us ss g e := inN_eq e1
  rw [e2]
  by_cases hei : e = i
  · subst hei; exact hF.dn x (.inr hx)
  · refine (h.edge e x he (fun hm => ?_) hx).trans (hF.up x)
    rcases List.mem_append.1 hm with hm | hm
    · exact hn (hF.old e hm)
    · rw [List.mem_singleton] at hm; exact hei hm
inductive WkP (us ss : Nat → Nat) (P : Nat → List Nat) : Nat → (Nat → Nat) → List Nat → (Nat → Nat) → Prop
  | done (g : Nat → Nat) : WkP us ss P 0 g [] g
  | step (g g' : Nat → Nat) (ws : List Nat) (i N : Nat) (h : WkP us ss P N ((P i).foldl (pV (inN us ss g i)) (g, ws)).1 ((P i).foldl (pV (inN us ss g i)) (g, ws)).2 g') : WkP us ss P (N + (((P i).foldl (pV (inN us ss g i)) (g, ws)).2.length - ws.length)) g (ws ++ [i]) g'
theorem pV_len (v : Nat) (s : (Nat → Nat) × List Nat) (x : Nat) : s.2.length ≤ (pV v s x).2.length := by
  unfold pV; split <;> simp
theorem pV_lenA (v : Nat) : ∀ (l : List Nat) (s : (Nat → Nat) × List Nat), s.2.length ≤ (l.foldl (pV v) s).2.length
  | [], s => Nat.le_refl _
  | x :: l, s => Nat.le_trans (pV_len v s x) (pV_lenA v l (pV v s x))
theorem wk_ex (hus : ∀ e, us e < 32) (hPk : ∀ e x, x ∈ P e → x < k) : ∀ (M : Nat) (g : Nat → Nat) (ws : List Nat), 2 * mu g k + ws.length ≤ M → Inv us ss bs P k g ws → ∃ N g', N ≤ mu g k ∧ WkP us ss P N g ws g' ∧ Inv us ss bs P k g' []
  | M, g, ws, hM, h => by
    rcases List.eq_nil_or_concat ws with rfl | ⟨ws', i, rfl⟩
    · exact ⟨0, g, Nat.zero_le _, .done g, h⟩
    · rw [List.concat_eq_append] at h hM ⊢
      rw [List.length_append, List.length_singleton] at hM
      obtain ⟨h1, h2⟩ := h.step hus hPk
      have h3 := pV_lenA (inN us ss g i) (P i) (g, ws')
      simp only at h3
      match M with
      | 0 => omega
      | M + 1 =>
        obtain ⟨N, g', hN, hw, hI⟩ := wk_ex hus hPk M _ _ (by omega) h1
        exact ⟨_, g', by omega, .step g g' ws' i N hw, hI⟩
theorem Inv.least' {g : Nat → Nat} (h : Inv us ss bs P k g []) : Least us ss bs P k g :=
  ⟨⟨h.base, fun e x he hx => h.edge e x he (by simp) hx⟩, h.least, h.lt⟩
theorem Least.uniq {g g' : Nat → Nat} (h : Least us ss bs P k g) (h' : Least us ss bs P k g') {e : Nat} (he : e < k) : g e = g' e := (h.least _ h'.pre e he).anti (h'.least _ h.pre e he)
end
end Go.Proofs.Ytdjmpilegommlaa
namespace Go.Proofs.Ytdjmpilegommlaa
open Go Go.Ly Go.RowKit
theorem so_T2 (a o n : Nat → Int) (k : Nat) (i : Int) : endsAt [0] (Ly.run cxC 200 [(0, false)] (mkSt Try.f31 soK none 1 (soV k i) [some (ndL a o n k)])) = some ([(decide (0 < i), false)], .bool true, 1, [some (ndL a o n k)]) := by kernel_rfl
theorem so_E2 (a o n : Nat → Int) (k : Nat) (i : Int) : endsAt [0] (Ly.run cxC 200 (soP [(0, true)]) (mkSt Try.f31 soK none 1 (soV k i) [some (ndL a o n k)])) = some (soT a k i [(decide (soX a i < soX a (soW i)), true)], .bool false, 1, [some (ndL a o n k)]) := by kernel_rfl
def SoQ (a o n : Nat → Int) (k : Nat) (b : Bool) (v : Value) (K : Heap) : Prop := v = .bool b ∧ K.get 0 = some (ndL a o n k) ∧ K.lock = 0 ∧ K.next = 1
theorem so_end {a o n : Nat → Int} {k : Nat} {b : Bool} {v : Value} {K : Heap} {nx : Nat} (h : v = .bool b ∧ K.next = 1 ∧ [0].map K.get = [some (ndL a o n k)] ∧ K.lock = 0) : SoQ a o n k b v K :=
  ⟨h.1, (List.cons.inj h.2.2.1).1, h.2.2.2, h.2.1⟩
theorem so_loop2 (a o n : Nat → Int) (k : Nat) (hk : k ≤ 4294967000) : ∀ (i : Nat), i < k → MWp Try.prog (mkSt Try.f31 soK none 1 (soV k i) [some (ndL a o n k)]) (SoQ a o n k (soN a i))
  | 0, _ => (MWp.ends cxC_ok 200 _ (so_T2 a o n k 0) (by simp [trusted])).mono (fun v K h => so_end (nx := 0) h)
  | i + 1, hi => by
    obtain ⟨h1, h2, h3, h4⟩ := ix_tests hi
    obtain ⟨g1, g2, g3, g4⟩ := ix_tests (show i < k by omega)
    have hw : soW ((i + 1 : Nat) : Int) = (i : Int) := by unfold soW; rw [IntKind.wrap_i64]; omega
    have h0 : decide ((0 : Int) < ((i + 1 : Nat) : Int)) = true := by simp
    have x1 : soX a ((i + 1 : Nat) : Int) = a (i + 1) := by unfold soX; rw [h3]
    have x2 : soX a (i : Int) = a i := by unfold soX; rw [g3]
    have nn : ∀ x : Int, (x != x) = false := fun x => by simp
    cases c : decide (a (i + 1) < a i) with
    | true =>
      have e : soN a (i + 1) = false := by simp only [soN, c, cond_true]
      rw [e]
      exact (MWp.ends cxC_ok 200 _ (so_E2 a o n k ((i + 1 : Nat) : Int)) (by simp only [soT, trusted, hw, h0, h2, h3, h4, g2, g3, g4, x1, x2, nn, c, and_self])).mono (fun v K h => so_end (nx := 0) h)
    | false =>
      have e : soN a (i + 1) = soN a i := by simp only [soN, c, cond_false]
      rw [e]
      cases c2 : decide (a i < a (i + 1)) with
      | true =>
        refine MWp.head cxC_ok _ _ _ _ (so_I a o n k ((i + 1 : Nat) : Int)) (by simp only [soT, trusted, hw, h0, h2, h3, h4, g2, g3, g4, x1, x2, nn, c, c2, and_self]) (ow_P a o n k) ?_
        rw [hw]; exact so_loop2 a o n k hk i (by omega)
      | false =>
        refine MWp.head cxC_ok _ _ _ _ (so_J a o n k ((i + 1 : Nat) : Int)) (by simp only [soT, trusted, hw, h0, h2, h3, h4, g2, g3, g4, x1, x2, nn, c, c2, and_self]) (ow_P a o n k) ?_
        rw [hw]; exact so_loop2 a o n k hk i (by omega)
theorem so_calls2 (a o n : Nat → Int) (k : Nat) (hk : k ≤ 4294967000) : LCalls Try.prog 31 [sls 0 k, soF] (mkH [some (ndL a o n k)]) (SoQ a o n k (soN a (k - 1))) := by
  refine LCalls_of cxC_ok soG (by kernel_rfl) ?_
  refine MWp.head cxC_ok _ _ _ _ (so_0 a o n k) trivial (ow_P a o n k) ?_
  rcases k with _ | k
  · exact (MWp.ends cxC_ok 200 _ (so_T2 a o n 0 _) (by simp [trusted, IntKind.wrap_i64])).mono (fun v K h => so_end (nx := 0) h)
  · have hw : IntKind.i64.wrap (((k + 1 : Nat) : Int) - 1) = (k : Int) := by rw [IntKind.wrap_i64]; omega
    rw [hw]
    exact so_loop2 a o n (k + 1) hk k (by omega)
theorem lv_G (a o n : Nat → Int) (k : Nat) (H : Heap) : haltF [0, 21, 22, 23] lvD (Ly.run cxL 13 [] (lvB0 a o n k true H)) = (true, [], true, (Try.f14, lpK, none, 1), lpV k 0, H) := by kernel_rfl
theorem lv_few (a o n : Nat → Int) (k nx : Nat) : formOf [0, 21, 22, 23] [0] (atSt Try.f14 lpK none 1 (lpV k 0) (vH [0] [some (ndL a o n k)] nx)) = (true, (Try.f14, lpK, none, 1), lpV k 0, [some (ndL a o n k)]) := by kernel_rfl
theorem zi_L (k : Nat) : LOeq (zL k) (inL (fun _ => 0) k) := by
  refine .inr ⟨1, _, _, k, 3, rfl, rfl, fun e j he hj => ?_⟩
  obtain rfl : j = 0 := by omega
  rfl
theorem live_start {Q : Value → Heap → Prop} (a o n : Nat → Int) (k : Nat) (hk : k ≤ 100) (ho : ∀ e, e < k → inb (o e) = true)
    (hgood : soN a (k - 1) = true → riN k a o = true → MWp Try.prog (atSt Try.f14 laK none 1 (laV0 k) (laH0 a o n k)) Q) (hbad : (soN a (k - 1) && riN k a o) = false → ∀ H, Q badT H) : LCalls Try.prog 14 [sls 0 k] (mkH [some (ndL a o n k)]) Q := by
  refine LCalls_of cxL31_ok lvG (by kernel_rfl) ?_
  refine MWp.head cxL31_ok _ _ _ _ (lv_0 a o n k) trivial (ow_P a o n k) ?_
  refine MWp.call envOk (lv_C a o n k) (so_calls2 a o n k (by omega)) ?_
  rintro v K ⟨rfl, k0, kl, kn⟩
  cases hs : soN a (k - 1) with
  | false => exact MWp.out cxL_ok 60 [] (lv_F a o n k K) trivial (hbad (by rw [hs]; rfl))
  | true =>
    refine MWp.halted cxL_ok _ _ _ (lv_G a o n k K) trivial ?_
    refine MWp.keepB (bs := [0]) (os := [some (ndL a o n k)]) (os' := [some (ndL a o n k)]) [0, 21, 22, 23] kn kl (by simp [k0]) ?_ rfl (lv_few a o n k 1) (ow_P a o n k) ?_
    · exact ⟨OW.refl _, trivial⟩
    · refine lp_loop a o n k hk ho (fun e he => (soN_spec (k - 1)).1 hs e (by omega)) (fun h => hgood hs h) (fun h => hbad (by rw [h, Bool.and_false])) k 0 (by omega) rfl
end Go.Proofs.Ytdjmpilegommlaa
namespace Go.Proofs.Ytdjmpilegommlaa
open Go Go.Ly Go.RowKit
theorem sWE0 (k bo ba : Nat) (H : Heap) : dn (Ly.run cxL 100 [] (atSt Try.f14 laW none 1 (slots 156 (wAL k bo ba (.slice none 0 0))) H)) = some ([], okT bo k, H) := by kernel_rfl
theorem la_0 (a o n : Nat → Int) (k : Nat) : (laH0 a o n k).get 0 = some (ndL a o n k) := by kernel_rfl
theorem la_1 (a o n : Nat → Int) (k : Nat) : (laH0 a o n k).get 1 = some (zL k) := by kernel_rfl
theorem la_2 (a o n : Nat → Int) (k : Nat) : (laH0 a o n k).get 2 = some (niL k) := by kernel_rfl
theorem la_n (a o n : Nat → Int) (k : Nat) : (laH0 a o n k).next = 3 := by kernel_rfl
theorem la_l (a o n : Nat → Int) (k : Nat) : (laH0 a o n k).lock = 0 := by kernel_rfl
theorem og_0 (a o n : Nat → Int) (k : Nat) : og a o n k 0 = fun _ => 0 := by
  funext e; unfold og
  rw [show Nat.blt e 0 = false from Bool.eq_false_iff.2 fun h => by rw [Nat.blt_eq] at h; omega]; rfl
def LiveQ (a o : Nat → Int) (k : Nat) (G : Nat → Int) (u : Value) (K : Heap) : Prop := ((soN a (k - 1) && riN k a o) = false ∧ u = badT) ∨ ((soN a (k - 1) && riN k a o) = true ∧ u = okT 1 k ∧ K.lock = 0 ∧ ∃ g', K.get 1 = some (inL g' k) ∧ ∀ e, e < k → g' e = G e)
theorem live_calls (a o n : Nat → Int) (k : Nat) (hk : k ≤ 100) (ho : ∀ e, e < k → inb (o e) = true) (G : Nat → Int)
    (hW : (soN a (k - 1) && riN k a o) = true → ∀ P : Nat → List Nat, (∀ e x, x ∈ P e ↔ x < k ∧ e ∈ toL a o n k x) → (∀ e, (P e).length ≤ k) → ∃ N g', N ≤ 100000 ∧ Wk o P N (og a o n k k) (List.range k) g' ∧ ∀ e, e < k → g' e = G e) :
    LCalls Try.prog 14 [sls 0 k] (mkH [some (ndL a o n k)]) (LiveQ a o k G) := by
  refine live_start a o n k hk ho (fun hs hr => ?_) (fun hb H => .inl ⟨hb, rfl⟩)
  have hsr : (soN a (k - 1) && riN k a o) = true := by rw [hs, hr]; rfl
  refine MWp.eqO (la_1 a o n k) rfl (zi_L k) (by decide) ?_
  have pg := fun o' j => put_get (H := laH0 a o n k) (show 1 < big by decide) o' j
  have hB : Bld ((laH0 a o n k).put 1 (inL (fun _ => 0) k)) a o n (og a o n k 0) k 1 2 0 (List.replicate k (.slice none 0 0)) (fun _ => []) (fun _ => 0) (List.range 0) := by
    rw [og_0]
    refine ⟨la_l a o n k, by rw [pg, if_neg (by decide)]; exact la_0 a o n k, by rw [pg, if_pos rfl], by rw [pg, if_neg (by decide)]; exact la_2 a o n k, List.length_replicate, fun e he => ?_, fun e he h => absurd rfl h, fun e he h => absurd rfl h, fun e e' _ _ h => absurd rfl h, fun h => absurd rfl h, fun h => absurd rfl h, fun h => absurd rfl h⟩
    rw [List.getElem?_replicate, if_pos he]; rfl
  show MWp Try.prog (atSt Try.f14 laK none 1 (slots 156 (hAL k 1 2 (liV 0 (List.range 0)) ((0 : Nat) : Int))) ((laH0 a o n k).put 1 (inL (fun _ => 0) k))) (LiveQ a o k G)
  refine bld_all hk ho (by decide) ?_ k 0 _ _ _ _ _ (by omega) (by show (laH0 a o n k).next + 7 * k ≤ 10000; rw [la_n]; omega) hB (fun e x => by simp) (fun e => by simp)
  intro K c qs bw P kn hK hP hPl
  refine MWp.halted cxL_ok _ _ _ (stW k 1 2 (liV bw (List.range k)) (k : Nat) K) (by simp only [trusted, show decide (((k : Nat) : Int) < (k : Nat)) = false by rw [decide_eq_false_iff_not]; omega, and_self]) ?_
  obtain ⟨N, g', hN, hwk, hg⟩ := hW hsr P hP hPl
  by_cases hk0 : k = 0
  · subst hk0
    refine MWp.done cxL_ok 100 [] (dn_end (sWE0 0 1 2 K) hK.lock) trivial (.inr ⟨hsr, rfl, hK.lock, _, hK.out, fun e he => by omega⟩)
  · have hne : List.range k ≠ [] := by
      intro h; have := congrArg List.length h; simp at this; exact hk0 this
    rw [liV_ne hne, ← wV_ne (b := bw) hne]
    have hWr : Wrk K a o n (og a o n k k) k 1 2 bw c P qs (List.range k) := ⟨hK.lock, hK.nd, hK.out, hK.rows, hK.len, hK.cell, hK.row, hK.rout, hK.work hne, hK.wout hne, hK.wrow hne⟩
    refine (wk_all hk ho (by decide) (fun e x h => ((hP e x).1 h).1) (fun e => by have := hPl e; omega) hwk K bw hWr (by rw [List.length_range]; omega) (by unfold big; omega) (fun x hx => List.mem_range.1 hx)).mono ?_
    rintro u J ⟨rfl, j1, j2⟩
    exact .inr ⟨hsr, rfl, j2, g', j1, hg⟩
end Go.Proofs.Ytdjmpilegommlaa
namespace Go.Proofs.Ytdjmpilegommlaa
open Go Go.Ly Go.RowKit
def castF (g : Nat → Nat) : Nat → Int := fun e => (g e : Int)
def usN (o : Nat → Int) (e : Nat) : Nat := if inb (o e) = true then (usesT (o e)).toNat else 0
def ssN (o : Nat → Int) (e : Nat) : Nat := if inb (o e) = true then (setsT (o e)).toNat else 0
theorem usN_lt (o : Nat → Int) (e : Nat) : usN o e < 32 := by
  unfold usN; split
  · rename_i h; have := us_in h; omega
  · omega
theorem ssN_lt (o : Nat → Int) (e : Nat) : ssN o e < 32 := by
  unfold ssN; split
  · rename_i h; have := us_in h; omega
  · omega
theorem usN_c {o : Nat → Int} {e : Nat} (h : inb (o e) = true) : usesT (o e) = (usN o e : Int) := by
  unfold usN; rw [if_pos h]; have := us_in h; omega
theorem ssN_c {o : Nat → Int} {e : Nat} (h : inb (o e) = true) : setsT (o e) = (ssN o e : Int) := by
  unfold ssN; rw [if_pos h]; have := us_in h; omega
theorem inF_c {o : Nat → Int} {g : Nat → Nat} {e : Nat} (h : inb (o e) = true) (hg : g e < 32) : inF o (castF g) e = (inN (usN o) (ssN o) g e : Int) := by
  have hx : xO o (e : Int) = o e := by unfold xO; rw [show 0 + ((e : Int)).toNat = e by omega]
  unfold inF
  rw [hx, gA_at, usN_c h, ssN_c h]
  show bits .or .i64 (usN o e : Int) (bits .andNot .i64 (g e : Int) (ssN o e : Int)) = _
  rw [bits_an hg (ssN_lt o e), bits_or (usN_lt o e) (and_lt _ hg)]; rfl
theorem inN_lt {o : Nat → Int} {g : Nat → Nat} {e : Nat} (hg : g e < 32) : inN (usN o) (ssN o) g e < 32 := or_lt (usN_lt o e) (and_lt _ hg)
theorem sV_c {v : Nat} {s : (Nat → Nat) × List Nat} {x : Nat} (hv : v < 32) (hs : ∀ e, s.1 e < 32) : sV (v : Int) (castF s.1, s.2) x = (castF (pV v s x).1, (pV v s x).2) := by
  have hb : bits .or .i64 (castF s.1 x) (v : Int) = ((s.1 x ||| v : Nat) : Int) := bits_or (hs x) hv
  unfold sV pV
  simp only [hb]
  by_cases h : s.1 x ||| v = s.1 x
  · rw [if_pos h]
    have : (((s.1 x ||| v : Nat) : Int) == castF s.1 x) = true := by rw [h]; simp [castF]
    rw [this]; rfl
  · rw [if_neg h]
    have : (((s.1 x ||| v : Nat) : Int) == castF s.1 x) = false := by
      rw [Bool.eq_false_iff]; intro h'
      have h' : ((s.1 x ||| v : Nat) : Int) = (s.1 x : Int) := by simpa [castF] using h'
      exact h (by omega)
    rw [this]
    simp only [cond_false, Prod.mk.injEq, and_true]
    funext e
    unfold castF
    by_cases he : e = x
    · subst he; simp [Nat.beq_refl]
    · show _ = (((if e = x then s.1 x ||| v else s.1 e : Nat)) : Int)
      rw [if_neg he, show Nat.beq e x = false from Bool.eq_false_iff.2 fun h' => he (Nat.eq_of_beq_eq_true h')]; rfl
theorem pV_lt {v : Nat} {s : (Nat → Nat) × List Nat} {x : Nat} (hv : v < 32) (hs : ∀ e, s.1 e < 32) (e : Nat) : (pV v s x).1 e < 32 := by
  unfold pV
  split
  · exact hs e
  · show (if e = x then s.1 x ||| v else s.1 e) < 32
    split
    · exact or_lt (hs x) hv
    · exact hs e
theorem fV_c {v : Nat} (hv : v < 32) : ∀ (l : List Nat) (s : (Nat → Nat) × List Nat), (∀ e, s.1 e < 32) → fV (v : Int) (castF s.1, s.2) l = (castF (l.foldl (pV v) s).1, (l.foldl (pV v) s).2) ∧ ∀ e, (l.foldl (pV v) s).1 e < 32
  | [], s, hs => ⟨rfl, hs⟩
  | x :: l, s, hs => by
    have h := fV_c hv l (pV v s x) (pV_lt hv hs)
    refine ⟨?_, h.2⟩
    show fV (v : Int) (sV (v : Int) (castF s.1, s.2) x) l = _
    rw [sV_c hv hs]; exact h.1
theorem wk_cast {o : Nat → Int} {P : Nat → List Nat} {k N : Nat} {g g' : Nat → Nat} {ws : List Nat} (ho : ∀ e, e < k → inb (o e) = true) (hPk : ∀ e x, x ∈ P e → x < k) (h : WkP (usN o) (ssN o) P N g ws g') :
    (∀ e, g e < 32) → (∀ x ∈ ws, x < k) → Wk o P N (castF g) ws (castF g') := by
  induction h with
  | done g => intro _ _; exact .done _ 0
  | step g g' ws i N h ih =>
    intro hg hw
    have hi : i < k := hw i (by simp)
    have hv : inF o (castF g) i = (inN (usN o) (ssN o) g i : Int) := inF_c (ho i hi) (hg i)
    obtain ⟨e1, e2⟩ := fV_c (inN_lt (o := o) (hg i)) (P i) (g, ws) hg
    have e1 : fV (inF o (castF g) i) (castF g, ws) (P i) = (castF ((P i).foldl (pV (inN (usN o) (ssN o) g i)) (g, ws)).1, ((P i).foldl (pV (inN (usN o) (ssN o) g i)) (g, ws)).2) := by rw [hv]; exact e1
    have := Wk.step (o := o) (P := P) (castF g) (castF g') ws i N (by
      rw [e1]
      refine ih e2 fun x hx => ?_
      have hx' : x ∈ (fV (inF o (castF g) i) (castF g, ws) (P i)).2 := by rw [e1]; exact hx
      rcases fV_in _ _ hx' with h | h
      · exact hw x (by simp [h])
      · exact hPk i x h)
    rw [e1] at this; exact this
def bsN (a o n : Nat → Int) (k e : Nat) : Nat := bif Nat.blt e k && opL a o n k e then 31 else 0
theorem og_c (a o n : Nat → Int) (k : Nat) : og a o n k k = castF (bsN a o n k) := by
  funext e; unfold og castF bsN; cases (Nat.blt e k && opL a o n k e) <;> rfl
theorem bsN_lt (a o n : Nat → Int) (k e : Nat) : bsN a o n k e < 32 := by unfold bsN; cases (Nat.blt e k && opL a o n k e) <;> decide
def prL (a o n : Nat → Int) (k e : Nat) : List Nat := (List.range k).filter fun x => decide (e ∈ toL a o n k x)
theorem prL_in {a o n : Nat → Int} {k e x : Nat} : x ∈ prL a o n k e ↔ x < k ∧ e ∈ toL a o n k x := by simp [prL]
def LeastL (a o n : Nat → Int) (k : Nat) (g : Nat → Nat) : Prop := Least (usN o) (ssN o) (bsN a o n k) (prL a o n k) k g
theorem Pre.congr {us ss bs : Nat → Nat} {P P' : Nat → List Nat} {k : Nat} {h : Nat → Nat} (hP : ∀ e x, x ∈ P e ↔ x ∈ P' e) (hp : Pre us ss bs P k h) : Pre us ss bs P' k h := ⟨hp.base, fun e x he hx => hp.edge e x he ((hP e x).2 hx)⟩
theorem Least.congr {us ss bs : Nat → Nat} {P P' : Nat → List Nat} {k : Nat} {h : Nat → Nat} (hP : ∀ e x, x ∈ P e ↔ x ∈ P' e) (hp : Least us ss bs P k h) : Least us ss bs P' k h :=
  ⟨hp.pre.congr hP, fun q hq => hp.least q (hq.congr fun e x => (hP e x).symm), hp.lt⟩
theorem mu_bd (g : Nat → Nat) : ∀ k, mu g k ≤ 31 * k
  | 0 => Nat.le_refl _
  | k + 1 => by have := mu_bd g k; simp only [mu]; omega
theorem live_run (a o n : Nat → Int) (k : Nat) (P : Nat → List Nat) (hP : ∀ e x, x ∈ P e ↔ x < k ∧ e ∈ toL a o n k x) : ∃ N g', N ≤ 31 * k ∧ WkP (usN o) (ssN o) P N (bsN a o n k) (List.range k) g' ∧ LeastL a o n k g' := by
  have hI : Inv (usN o) (ssN o) (bsN a o n k) P k (bsN a o n k) (List.range k) :=
    ⟨fun x _ => Sub.refl _, fun e x he hn _ => absurd (List.mem_range.2 he) hn, fun h hp => hp.base, bsN_lt a o n k, fun x hx => List.mem_range.1 hx⟩
  obtain ⟨N, g', hN, hw, hI'⟩ := wk_ex (usN_lt o) (fun e x h => ((hP e x).1 h).1) _ _ _ (Nat.le_refl _) hI
  exact ⟨N, g', Nat.le_trans hN (mu_bd _ _), hw, hI'.least'.congr fun e x => (hP e x).trans prL_in.symm⟩
theorem live_ex (a o n : Nat → Int) (k : Nat) : ∃ g, LeastL a o n k g := by
  obtain ⟨N, g', _, _, h⟩ := live_run a o n k (prL a o n k) (fun e x => prL_in)
  exact ⟨g', h⟩
def livN (a o n : Nat → Int) (k : Nat) : Nat → Nat := Classical.choose (live_ex a o n k)
theorem livN_least (a o n : Nat → Int) (k : Nat) : LeastL a o n k (livN a o n k) := Classical.choose_spec (live_ex a o n k)
def livG (a o n : Nat → Int) (k : Nat) : Nat → Int := castF (livN a o n k)
theorem live_good (a o n : Nat → Int) (k : Nat) (hk : k ≤ 100) (ho : ∀ e, e < k → inb (o e) = true) : LCalls Try.prog 14 [sls 0 k] (mkH [some (ndL a o n k)]) (LiveQ a o k (livG a o n k)) := by
  refine live_calls a o n k hk ho _ fun _ P hP hPl => ?_
  obtain ⟨N, g', hN, hw, hL⟩ := live_run a o n k P hP
  refine ⟨N, castF g', by omega, ?_, fun e he => ?_⟩
  · rw [og_c]
    exact wk_cast ho (fun e x h => ((hP e x).1 h).1) hw (bsN_lt a o n k) (fun x hx => List.mem_range.1 hx)
  · show ((g' e : Nat) : Int) = (livN a o n k e : Nat)
    rw [hL.uniq (livN_least a o n k) he]
end Go.Proofs.Ytdjmpilegommlaa
namespace Go.Ly
open Go.RowKit
section
variable {P : Program} {ρ : Ren} {H : Heap} {w w' : World}
theorem calls_pairF {f : FuncId} {args0 args' : List Value} {os : List (Option LO)} {ρ1 : Ren} {r n : Nat} {g : Nat → Value} {t : TypeId} {x : Value} (hx : plain x = true) (hc : ∀ e, e < n → cst (g e) = true)
    (h : LCalls P f args0 (mkH os) (fun u K => u = .tuple ⟨[sl r n, x]⟩ ∧ (∃ g', K.get r = some (.fn 1 g' n t) ∧ ∀ e, e < n → g' e 0 = g e) ∧ K.lock = 0)) (ha : VRL ρ1 args0 args') (hr1 : Rep ρ1 (mkH os) w) (hro : ∀ i, ρ1.ro i = true)
    (hr : Rep ρ H w) (hb : H.next + 1 < big) :
    Calls P f ⟨args'⟩ w (fun e w' => ∃ ρ' v v' H', e = .returned v' ∧ (v = .tuple ⟨[sl H.next n, x]⟩ ∧ H' = H.new (.fn 1 (fun e _ => g e) n t)) ∧ Ren.le ρ ρ' ∧ Fresh ρ ρ' w ∧ VR ρ' v v' ∧ Rep ρ' H' w' ∧ Keep ρ w w') := by
  refine (h ρ1 args' w ha hr1).mono ?_
  rintro e w' ⟨ρ2, u, u', K, rfl, ⟨rfl, ⟨g', hK, hg⟩, hlk⟩, h1, h2, h3, h4, h5⟩
  have hbel : Below w.heap.size w w' := ⟨h5.os, h5.tape, h5.output, h5.size, fun k hk => h5.block k hk (fun i _ => hro i)⟩
  obtain ⟨q1, b, o', q2, q3, q4⟩ := h4.obj r _ hK rfl
  have hro2 : ρ2.ro r = false := q1 (by rw [hlk]; exact Nat.zero_le _)
  have hbnew : w.heap.size ≤ b := by
    rcases h2 r b q2 with h6 | ⟨j, _, h6⟩
    · exact h6
    · have := h6 hro2; rw [hro j] at this; cases this
  have hrB := hr.below hbel
  have hnone : ∀ i, ρ i ≠ some b := fun i e => by have := (hr.dom i b e).2; omega
  obtain ⟨z1, z0, c', d', z3, z5, z4, z2⟩ := q4
  have hOR : OR (ρ.ext H.next b (ρ2.cap r) 1) H.next (.fn 1 (fun e _ => g e) n t) o' := by
    refine ⟨by simp [Ren.ext], by simp [Ren.ext], c', d', z3, z5, by simp [Ren.ext]; omega, ⟨fun e j he hj => ?_, fun e j he hj => hc e he⟩⟩
    obtain rfl : j = 0 := by omega
    obtain ⟨v', k1, k2⟩ := z2.val e 0 he (by omega)
    rw [hg e he] at k2
    exact ⟨v', k1, VR_cst (hc e he) k2⟩
  have hRep := hrB.extNew (k := ρ2.cap r) (wd := 1) hb rfl (h4.dom r b q2).2 hnone q3 hOR (by
    cases hf : fixed b with
    | none => rfl
    | some o => have := hr.fix.lt hf; omega)
  refine ⟨ρ.ext H.next b (ρ2.cap r) 1, .tuple ⟨[sl H.next n, x]⟩, u', _, rfl, ⟨rfl, rfl⟩, hr.ext_le _ _ _, fun i y hy => ?_, ?_, hRep, Below.toKeep hbel⟩
  · simp only [Ren.ext] at hy
    split at hy
    · simp at hy; subst hy; exact .inl hbnew
    · rename_i e; exact .inr ⟨i, hy, by simp [Ren.ext, e]⟩
  · simp only [VR, VRL, sl] at h3 ⊢
    obtain ⟨l', ⟨s', r', ⟨a', c2, rfl, y1, y2, y3⟩, ⟨x', e', hx', he', rfl⟩, rfl⟩, rfl⟩ := h3
    subst he'
    have := plain_eq hx hx'
    subst this
    refine ⟨_, ⟨_, _, ⟨a', c2, rfl, y1, fun hc => absurd rfl hc, fun hN => ?_⟩, ⟨_, _, plain_VR _ hx, rfl, rfl⟩, rfl⟩, rfl⟩
    obtain ⟨b', x1, x2, x3⟩ := y3 hN
    have hbb : b' = b := by
      have x1' : ρ2 r = some b' := x1
      rw [q2] at x1'; simp at x1'; exact x1'.symm
    subst hbb
    refine ⟨b', by simp [Ren.ext], ?_, ?_⟩
    · rw [x2]; simp [Ren.at, Ren.ext, z1]
    · intro hc _
      have := x3 rfl (by simp [Ren.at, z1])
      simpa [Ren.ext] using this
def EmpT (z : Bool) (x : Value) (u : Value) : Prop := (z = true ∧ u = .tuple ⟨[.slice none 0 0, x]⟩) ∨ (z = false ∧ ∃ b, u = .tuple ⟨[sl b 0, x]⟩)
def empV (z : Bool) (x : Value) : Value := .tuple ⟨[bif z then .slice none 0 0 else sl 0 0, x]⟩
theorem EmpT.vr {z : Bool} {x u v' : Value} (hx : plain x = true) (h : EmpT z x u) {ρ2 : Ren} (hv : VR ρ2 u v') (ρ : Ren) : VR ρ (empV z x) v' := by
  rcases h with ⟨rfl, rfl⟩ | ⟨rfl, b, rfl⟩
  · simp only [empV, cond_true, VR, VRL, sl] at hv ⊢
    obtain ⟨l', ⟨s', r', rfl, ⟨x', e', hx', he', rfl⟩, rfl⟩, rfl⟩ := hv
    subst he'
    have := plain_eq hx hx'
    subst this
    exact ⟨_, ⟨_, _, rfl, ⟨_, _, plain_VR _ hx, rfl, rfl⟩, rfl⟩, rfl⟩
  · simp only [empV, cond_false, VR, VRL, sl] at hv ⊢
    obtain ⟨l', ⟨s', r', ⟨a', c2, rfl, y1, y2, y3⟩, ⟨x', e', hx', he', rfl⟩, rfl⟩, rfl⟩ := hv
    subst he'
    have := plain_eq hx hx'
    subst this
    exact ⟨_, ⟨_, _, ⟨a', c2, rfl, y1, fun e => absurd rfl e, fun e => absurd rfl e⟩, ⟨_, _, plain_VR _ hx, rfl, rfl⟩, rfl⟩, rfl⟩
theorem calls_pairE {f : FuncId} {args0 args' : List Value} {os : List (Option LO)} {ρ1 : Ren} {z : Bool} {x : Value} (hx : plain x = true) (h : LCalls P f args0 (mkH os) (fun u _ => EmpT z x u)) (ha : VRL ρ1 args0 args') (hr1 : Rep ρ1 (mkH os) w) (hro : ∀ i, ρ1.ro i = true) (hr : Rep ρ H w) :
    Calls P f ⟨args'⟩ w (fun e w' => ∃ ρ' v v' H', e = .returned v' ∧ (v = empV z x ∧ H' = H) ∧ Ren.le ρ ρ' ∧ Fresh ρ ρ' w ∧ VR ρ' v v' ∧ Rep ρ' H' w' ∧ Keep ρ w w') := by
  refine (h ρ1 args' w ha hr1).mono ?_
  rintro e w' ⟨ρ2, u, u', K, rfl, hu, h1, h2, h3, h4, h5⟩
  have hbel : Below w.heap.size w w' := ⟨h5.os, h5.tape, h5.output, h5.size, fun k hk => h5.block k hk (fun i _ => hro i)⟩
  exact ⟨ρ, _, u', H, rfl, ⟨rfl, rfl⟩, Ren.le_refl _, Fresh.refl _ _, hu.vr hx h3 ρ, hr.below hbel, Below.toKeep hbel⟩
theorem HGood.both {f : Nat} {args : List Value} {z : Bool} {v : Bool → Value} (h : LCalls P f args H (fun u K => u = v z ∧ K = H)) : HGood P f args H (.tst z (.val (v true)) (.val (v false))) := by
  cases z with
  | true => exact ⟨fun _ => h, fun h => by cases h⟩
  | false => exact ⟨fun h => (by cases h), fun _ => h⟩
structure PairB where
  ok : Bool
  n : Nat
  g : Nat → Int
  x : Value
  z : Bool
def rowsPairE (k : Nat) (mk : Nat → (Nat → Nat → Value) → List Value → PairB) (t : TypeId) (H : Heap) (args : List Value) : ER :=
  match args with
  | x :: rest =>
    match srcR H k x with
    | some (g1, u) => bif Nat.beq H.lock 0 && Nat.blt (H.next + 1) 2147483000 then
        .tst (g1 && (u.csts && (plainL rest && (mk u.n (u.fun k) rest).ok)))
          (.tst (Nat.beq (mk u.n (u.fun k) rest).n 0) (.tst (mk u.n (u.fun k) rest).z (.val (empV true (mk u.n (u.fun k) rest).x)) (.val (empV false (mk u.n (u.fun k) rest).x)))
            (.mem (.tuple ⟨[sl H.next (mk u.n (u.fun k) rest).n, (mk u.n (u.fun k) rest).x]⟩) (H.new (.fn 1 (fun e _ => .int .i64 ((mk u.n (u.fun k) rest).g e)) (mk u.n (u.fun k) rest).n t)))) .no else .no
    | none => .no
  | _ => .no
theorem rowsPairE_good {k : Nat} {t : TypeId} {f : FuncId} {mk : Nat → (Nat → Nat → Value) → List Value → PairB} (hp : ∀ n G r, plain (mk n G r).x = true)
    (hS : ∀ n G r, plainL r = true → (mk n G r).ok = true → (mk n G r).n ≠ 0 → ∃ b, LCalls P f (sls 0 n :: r) (mkH [some (.arg k G n)]) (fun u K => u = .tuple ⟨[sl b (mk n G r).n, (mk n G r).x]⟩ ∧
      (∃ g', K.get b = some (.fn 1 g' (mk n G r).n t) ∧ ∀ e, e < (mk n G r).n → g' e 0 = .int .i64 ((mk n G r).g e)) ∧ K.lock = 0))
    (hZ : ∀ n G r, plainL r = true → (mk n G r).ok = true → (mk n G r).n = 0 → LCalls P f (sls 0 n :: r) (mkH [some (.arg k G n)]) (fun u _ => EmpT (mk n G r).z (mk n G r).x u))
    (hN : ∀ G r, plainL r = true → (mk 0 G r).ok = true → (mk 0 G r).n = 0 ∧ LCalls P f (.slice none 0 0 :: r) (mkH []) (fun u _ => EmpT (mk 0 G r).z (mk 0 G r).x u))
    (H : Heap) (args : List Value) : HGood P f args H (rowsPairE k mk t H args) := by
  unfold rowsPairE
  split
  · rename_i x rest
    cases h1 : srcR H k x with
    | none => exact trivial
    | some gu =>
      obtain ⟨g1, u⟩ := gu
      simp only
      cases hb0 : (Nat.beq H.lock 0 && Nat.blt (H.next + 1) 2147483000) with
      | false => exact trivial
      | true =>
        rw [Bool.and_eq_true] at hb0
        have hb : H.next + 1 < big := by have := hb0.2; unfold big; simpa [Nat.blt_eq] using this
        refine ⟨fun hg => ⟨fun h0 => HGood.both (v := fun z => empV z (mk u.n (u.fun k) rest).x) ?_, fun h0 => ?_⟩, fun _ => trivial⟩
        all_goals
          simp only [Bool.and_eq_true] at hg
          obtain ⟨e1, e2, e3, e4⟩ := hg
          intro ρ args' w ha hr
          haveI := hr.fix.w
          simp only [VRL] at ha
          obtain ⟨x', r', hx, hr', rfl⟩ := ha
          obtain rfl := plainL_eq e3 hr'
        · have h0 := Nat.eq_of_beq_eq_true h0
          rcases nil_or h1 with ⟨rfl, rfl⟩ | ⟨a, n, c, rfl⟩
          · simp only [VR] at hx; subst hx
            exact calls_pairE (ρ1 := rowsRen []) (hp _ _ _) (hN _ r' e3 e4).2 (by simp only [VRL]; exact ⟨_, _, by simp [VR], plainL_VR _ e3, rfl⟩) (rows_rep (rs := []) rfl (by simp) (by simp) (by simp)) (fun _ => rfl) hr
          · obtain ⟨hun, p, hrow⟩ := view_rows hr hx h1 e1 e2
            have hL := hZ u.n (u.fun k) r' e3 e4 h0
            have hpp := hp u.n (u.fun k) r'
            rw [hun] at hL hpp ⊢
            exact calls_pairE (ρ1 := rowsRenW [p] (fun _ => k)) hpp hL (by simp only [VRL]; exact ⟨x', _, VR_sls (slW_VR hrow (by simp)), plainL_VR _ e3, rfl⟩)
              (rowsW_rep (l := [p]) (rs := [(k, u.fun k, n)]) rfl (by simp) (by
                intro i q hq
                rcases i with _ | i
                · simp at hq; exact hrow.low q hq
                · simp at hq) (by
                intro i k2 g2 n2 h0
                rcases i with _ | i
                · simp at h0; obtain ⟨rfl, rfl, rfl⟩ := h0
                  refine ⟨rfl, fun e j he hj => ⟨hrow.one e j he hj, ?_⟩⟩
                  obtain ⟨q, h3, h4⟩ := hrow.cell e j he hj
                  exact ⟨q, by simp [h3], h4⟩
                · simp at h0)) (fun _ => rfl) hr
        · have h0 : (mk u.n (u.fun k) r').n ≠ 0 := fun e => by rw [e] at h0; cases h0
          rcases nil_or h1 with ⟨rfl, rfl⟩ | ⟨a, n, c, rfl⟩
          · exact absurd (hN _ r' e3 e4).1 h0
          · obtain ⟨hun, p, hrow⟩ := view_rows hr hx h1 e1 e2
            obtain ⟨b, hL⟩ := hS u.n (u.fun k) r' e3 e4 h0
            rw [hun] at hL ⊢
            exact calls_pairF (ρ1 := rowsRenW [p] (fun _ => k)) (by rw [← hun]; exact hp _ _ _) (fun e he => rfl) hL (by simp only [VRL]; exact ⟨x', _, VR_sls (slW_VR hrow (by simp)), plainL_VR _ e3, rfl⟩)
              (rowsW_rep (l := [p]) (rs := [(k, u.fun k, n)]) rfl (by simp) (by
                intro i q hq
                rcases i with _ | i
                · simp at hq; exact hrow.low q hq
                · simp at hq) (by
                intro i k2 g2 n2 h0
                rcases i with _ | i
                · simp at h0; obtain ⟨rfl, rfl, rfl⟩ := h0
                  refine ⟨rfl, fun e j he hj => ⟨hrow.one e j he hj, ?_⟩⟩
                  obtain ⟨q, h3, h4⟩ := hrow.cell e j he hj
                  exact ⟨q, by simp [h3], h4⟩
                · simp at h0)) (fun _ => rfl) hr hb
  · exact trivial
end
end Go.Ly
namespace Go.Proofs.Ytdjmpilegommlaa
open Go Go.Ly Go.RowKit
theorem riF_rise {a o : Nat → Int} : ∀ (d i : Nat), riF a o d i = true → ∀ e, i ≤ e → e < i + d → e ≠ 0 → a (e - 1) < a e
  | 0, i, h, e, h1, h2, h3 => by omega
  | d + 1, i, h, e, h1, h2, h3 => by
    unfold riF at h
    cases hb : riB a o i with
    | true => rw [hb] at h; cases h
    | false =>
      rw [hb] at h
      by_cases he : e = i
      · subst he
        unfold riB at hb
        rw [Bool.or_eq_false_iff, show Nat.beq e 0 = false from Bool.eq_false_iff.2 fun h' => h3 (Nat.eq_of_beq_eq_true h')] at hb
        have := hb.1
        simp only [cond_false, decide_eq_false_iff_not] at this
        omega
      · exact riF_rise d (i + 1) h e (by omega) (by omega) h3
theorem so_ri (a o : Nat → Int) (k : Nat) : (soN a (k - 1) && riN k a o) = riN k a o := by
  cases h : riN k a o with
  | false => exact Bool.and_false _
  | true =>
    rw [Bool.and_true]
    refine (soN_spec (k - 1)).2 fun e he => ?_
    have := riF_rise k 0 h (e + 1) (by omega) (by omega) (by omega)
    rw [Nat.add_sub_cancel] at this; omega
theorem so_N2 : endsAt [] (Ly.run cxC 200 [] (Ly.start Try.f31 [.slice none 0 0, soF] (mkH []))) = some ([], .bool true, 0, []) := by kernel_rfl
def lvVn : List Value := slots 156 [(0, .slice none 0 0), (18, .slice none 0 0)]
theorem lvn_0 : headAt [0, 18] [] lvD (Ly.run cxL31 60 [] (Ly.start Try.f14 [.slice none 0 0] (mkH []))) = (true, [], true, (Try.f14, lvK0, none, 0), lvVn, []) := by kernel_rfl
theorem lvn_C : callOf env (mkSt Try.f14 lvK0 none 0 lvVn []) = some (31, [.slice none 0 0, soF]) := by kernel_rfl
def lvKn : List KI := ((Ly.run cxL 1 [] (behind (mkSt Try.f14 lvK0 none 0 lvVn []) (.bool true) H0)).st lvD).top.k
def lvVm : List Value := slots 156 [(0, .slice none 0 0), (19, .bool true), (20, .bool false)]
theorem lvn_G (H : Heap) : haltF [0, 19, 20] lvD (Ly.run cxL 1 [] (behind (mkSt Try.f14 lvK0 none 0 lvVn []) (.bool true) H)) = (true, [], true, (Try.f14, lvKn, none, 0), lvVm, H) := by kernel_rfl
theorem lvn_few (nx : Nat) : formOf [0, 19, 20] [] (atSt Try.f14 lvKn none 0 lvVm (vH [] [] nx)) = (true, (Try.f14, lvKn, none, 0), lvVm, []) := by kernel_rfl
theorem lvn_E : (Ly.run cxL 300 [] (mkSt Try.f14 lvKn none 0 lvVm [])).out? = some ([], okT 0 0) := by kernel_rfl
theorem live_nil : LCalls Try.prog 14 [.slice none 0 0] (mkH []) (fun u _ => EmpT false (.int .i64 0) u) := by
  refine LCalls_of cxL31_ok lvG (by kernel_rfl) ?_
  refine MWp.head cxL31_ok _ _ _ _ lvn_0 trivial (by intro o ho; cases ho) ?_
  refine MWp.call envOk lvn_C (Ends.of_run cxC_ok 200 _ soG (by kernel_rfl) so_N2 trivial) ?_
  rintro v K ⟨rfl, kn, _, kl⟩
  refine MWp.halted cxL_ok _ _ _ (lvn_G K) trivial ?_
  refine MWp.keepB (bs := []) (os := []) (os' := []) [0, 19, 20] kn kl rfl trivial rfl (lvn_few 0) (by intro o ho; cases ho) ?_
  exact MWp.out cxL_ok 300 _ lvn_E trivial (fun _ => .inr ⟨rfl, 0, rfl⟩)
def lvMk (n : Nat) (G : Nat → Nat → Value) (r : List Value) : PairB := match r with
  | [] => ⟨okN n G && ((List.range n).all fun e => inb (oOf G e)) && Nat.ble n 100, bif riN n (aOf G) (oOf G) then n else 0, livG (aOf G) (oOf G) (nOf G) n, .int .i64 (bif riN n (aOf G) (oOf G) then 0 else 1), !riN n (aOf G) (oOf G)⟩
  | _ => ⟨false, 0, fun _ => 0, .bool false, true⟩
def lvC : Heap → List Value → ER := rowsPairE 3 lvMk 3
theorem lvC_good (H : Heap) (args : List Value) : HGood Try.prog 14 args H (lvC H args) := by
  refine rowsPairE_good (fun n G r => ?_) (fun n G r hp hg h0 => ?_) (fun n G r hp hg h0 => ?_) (fun G r hp hg => ?_) H args
  · unfold lvMk; split <;> simp [plain]
  · unfold lvMk at hg h0 ⊢
    split at hg
    · simp only [Bool.and_eq_true, List.all_eq_true, List.mem_range] at hg
      obtain ⟨h1, h2⟩ := okN_eq hg.1.1
      have hk := Nat.le_of_ble_eq_true hg.2
      have hL := LCalls.argEq h2 (live_good (aOf G) (oOf G) (nOf G) n hk hg.1.2)
      cases hr : riN n (aOf G) (oOf G) with
      | false => rw [hr] at h0; exact absurd rfl h0
      | true =>
        refine ⟨1, hL.mono ?_⟩
        rintro u K (⟨hb, _⟩ | ⟨_, rfl, kl, g', kg, kv⟩)
        · rw [so_ri, hr] at hb; cases hb
        · exact ⟨rfl, ⟨_, kg, fun e he => by rw [kv e he]⟩, kl⟩
    · cases hg
  · unfold lvMk at hg h0 ⊢
    split at hg
    · simp only [Bool.and_eq_true, List.all_eq_true, List.mem_range] at hg
      obtain ⟨h1, h2⟩ := okN_eq hg.1.1
      have hk := Nat.le_of_ble_eq_true hg.2
      have hL := LCalls.argEq h2 (live_good (aOf G) (oOf G) (nOf G) n hk hg.1.2)
      cases hr : riN n (aOf G) (oOf G) with
      | false =>
        refine hL.mono ?_
        rintro u K (⟨_, rfl⟩ | ⟨hb, _⟩)
        · exact .inl ⟨rfl, rfl⟩
        · rw [so_ri, hr] at hb; cases hb
      | true =>
        rw [hr] at h0
        have h0 : n = 0 := h0
        refine hL.mono ?_
        rintro u K (⟨hb, _⟩ | ⟨_, rfl, _⟩)
        · rw [so_ri, hr] at hb; cases hb
        · exact .inr ⟨rfl, 1, by rw [h0]; rfl⟩
    · cases hg
  · unfold lvMk at hg ⊢
    split at hg
    · exact ⟨rfl, live_nil⟩
    · cases hg
end Go.Proofs.Ytdjmpilegommlaa
namespace Go.Proofs.Ytdjmpilegommlaa
open Go Go.Ly Go.RowKit
def cxU : Ctx := (((cxM.withC 18 riC).withH 15 ownC).withH 19 nxC).withH 14 lvC
theorem cxU_ok : cxU.Ok Try.prog := (((cxM_ok.withC riC_good).withH ownC_good).withH nxC_good).withH lvC_good
def lsD : St := Ly.start Try.f5 [] H0
end Go.Proofs.Ytdjmpilegommlaa
namespace Go.Proofs.Ytdjmpilegommlaa
open Go Go.Ly Go.RowKit
def lsR (a o : Nat → Int) (k : Nat) : Bool := riN k (sh (sh a)) (sh (sh o))
def lsM (a o : Nat → Int) (k : Nat) : Nat := bif lsR a o k then k else 0
def lsG (a o n : Nat → Int) (k : Nat) : Nat → Int := livG (sh (sh a)) (sh (sh o)) (sh (sh n)) k
def lsT1 (a o n : Nat → Int) (k : Nat) : Bool := Nat.ble (0 + k) k && ((okN k (fun e x => ndG (sh a) (sh o) (sh n) (0 + e) x) && ((List.range k).all fun e => inb (sh (sh o) e))) && Nat.ble k 100)
def lsX (a o : Nat → Int) (k : Nat) : Int := bif lsR a o k then 0 else 1
def rowTr (a o n : Nat → Int) (k : Nat) : Bool := Nat.ble (0 + k) k && (okN k (fun e x => ndG a o n (0 + e) x) && (List.range k).all fun e => inb (sh o e))
def lsN (a o n : Nat → Int) (k : Nat) (i : Int) : List Int × Bool := nxF k (sh (sh a)) (sh (sh o)) (sh (sh n)) i
def rowTn (a o n : Nat → Int) (k : Nat) : Bool := Nat.ble (0 + k) k && (okN k (fun e x => ndG (sh a) (sh o) (sh n) (0 + e) x) && (List.range k).all fun e => inb (sh (sh o) e))
end Go.Proofs.Ytdjmpilegommlaa
namespace Go.Proofs.Ytdjmpilegommlaa
open Go Go.Ly Go.RowKit
end Go.Proofs.Ytdjmpilegommlaa
namespace Go.Proofs.Ytdjmpilegommlaa
open Go Go.Ly Go.RowKit
def wF (o : Nat → Int) (g : Nat → Nat) (l : List Nat) (w : Nat) : Nat := l.foldl (fun w e => w ||| inN (usN o) (ssN o) g e) w
theorem wF_base (o : Nat → Int) (g : Nat → Nat) : ∀ (l : List Nat) (w : Nat), Sub w (wF o g l w)
  | [], w => Sub.refl _
  | e :: l, w => (Sub.left w _).trans (wF_base o g l _)
theorem wF_in {o : Nat → Int} {g : Nat → Nat} {e : Nat} : ∀ (l : List Nat) (w : Nat), e ∈ l → Sub (inN (usN o) (ssN o) g e) (wF o g l w)
  | x :: l, w, h => by
    rcases List.mem_cons.1 h with rfl | h
    · exact (Sub.right w _).trans (wF_base o g l _)
    · exact wF_in l _ h
theorem wF_sub {o : Nat → Int} {g : Nat → Nat} {z : Nat} : ∀ (l : List Nat) (w : Nat), Sub w z → (∀ e ∈ l, Sub (inN (usN o) (ssN o) g e) z) → Sub (wF o g l w) z
  | [], w, h, _ => h
  | x :: l, w, h, hl => wF_sub l _ (Sub.or h (hl x (by simp))) (fun e he => hl e (by simp [he]))
theorem LeastL.fix {a o n : Nat → Int} {k : Nat} {g : Nat → Nat} (h : LeastL a o n k g) {x : Nat} (hx : x < k) : wF o g (toL a o n k x) (bsN a o n k x) = g x := by
  have up : ∀ y, y < k → Sub (wF o g (toL a o n k y) (bsN a o n k y)) (g y) := fun y hy =>
    wF_sub _ _ (h.pre.base y hy) fun e he => h.pre.edge e y (toL_in he) (prL_in.2 ⟨hy, he⟩)
  refine (up x hx).anti (h.least (fun y => wF o g (toL a o n k y) (bsN a o n k y)) ⟨fun y _ => wF_base o g _ _, fun e y he hy => ?_⟩ x hx)
  exact (inN_sub (up e he)).trans (wF_in _ _ (prL_in.1 hy).2)
section
variable {Q : Value → Heap → Prop} {a o n : Nat → Int} {k : Nat} {g : Nat → Nat}
end
end Go.Proofs.Ytdjmpilegommlaa
namespace Go.Proofs.Ytdjmpilegommlaa
open Go Go.Ly Go.RowKit
theorem lsN_eq (a o n : Nat → Int) (k : Nat) (i : Int) : lsN a o n k i = nxS a o n k i := by unfold lsN nxS; rw [sh_eq, sh_eq, sh_eq, sh_eq, sh_eq, sh_eq]
theorem ndG_0 (a o n : Nat → Int) : (fun e x => ndG a o n (0 + e) x) = ndG a o n := by funext e x; simp
theorem rowT_ok {a o n : Nat → Int} {k : Nat} (hk : k ≤ 100) : rowT a o n k = true := by unfold rowT; rw [ndG_0, okN_nd _ _ _ (by omega)]; simp
theorem rowTn_ok {a o n : Nat → Int} {k : Nat} (hk : k ≤ 100) (ho : ∀ e, e < k → inb (o e) = true) : rowTn a o n k = true := by
  unfold rowTn; rw [sh_eq, sh_eq, sh_eq, sh_eq, ndG_0, okN_nd _ _ _ (by omega), List.all_eq_true.2 (fun e he => ho e (List.mem_range.1 he))]; simp
end Go.Proofs.Ytdjmpilegommlaa
namespace Go.Proofs.Ytdjmpilegommlaa
open Go Go.Ly Go.RowKit
theorem ck_node {W : World} {v : Value} (h : CkOk W (.slice [.int .u16, .int .u8, .int .u16]) v) : v = .slice none 0 0 ∨ ∃ (k : Nat) (a o n : Nat → Int) (p : Option Plc), RealRows W 3 (ndG a o n) k v p ∧ (∀ e, e < k → inb (o e) = true) := by
  rcases ck_rows (by rfl) (by decide) h with rfl | ⟨k, F, p, hr, hc, _⟩
  · exact .inl rfl
  · have hF : ∀ e, e < k → ∃ x y u, F e = [.int .u16 x, .int .u8 y, .int .u16 u] ∧ inb y = true := by
      intro e he
      have h1 := hc e he
      simp only [CksOk, CkOk] at h1
      obtain ⟨_, _, e1, ⟨x, rfl, hx⟩, _, _, rfl, ⟨y, rfl, hy⟩, _, _, rfl, ⟨u, rfl, hu⟩, rfl⟩ := h1
      have hy := bounds_u8 hy
      exact ⟨x, y, u, e1, by simp [inb]; omega⟩
    refine .inr ⟨k, fun e => intV (((F e)[0]?).getD undef), fun e => intV (((F e)[1]?).getD undef), fun e => intV (((F e)[2]?).getD undef), p, hr.congr (fun e j he hj => ?_), fun e he => ?_⟩
    · obtain ⟨x, y, u, e1, _⟩ := hF e he
      have hj : j < 3 := hj
      simp only [ndG, e1]
      have : j = 0 ∨ j = 1 ∨ j = 2 := by omega
      rcases this with rfl | rfl | rfl <;> rfl
    · obtain ⟨x, y, u, e1, b1⟩ := hF e he
      simp only [e1]; exact b1
end Go.Proofs.Ytdjmpilegommlaa
namespace Go.Proofs.Ytdjmpilegommlaa
open Go Go.Ly Go.RowKit
def cyX : Ctx := cxU
theorem cyX_ok : cyX.Ok Try.prog := cxU_ok
def moV (ma mo mn : Int) : Value := .agg ⟨[.int .u16 ma, .int .u8 mo, .int .u16 mn]⟩
def moL (ma mo mn : Int) : LO := .cells [.int .u16 ma, .int .u8 mo, .int .u16 mn] 39
def e6D : St := Ly.start Try.f6 [] H0
def e6S (a o n : Nat → Int) (k : Nat) (ma mo mn : Int) : St := Ly.start Try.f6 [sls 0 k, moV ma mo mn] (mkH [some (ndL a o n k)])
def e6p (l : Path) : Path := (0, true) :: (1, true) :: (2, true) :: (2, true) :: (2, false) :: (0, true) :: (0, false) :: (0, true) :: (0, false) :: (0, true) :: (5, false) :: l
def e6K1 : List KI := ((Ly.run cyX 58 (e6p []) (e6S zF zF zF 0 0 0 0)).st e6D).top.k
def e6V1 (k m : Nat) (i : Int) : List Value := slots 179 [(0, sls 0 k), (3, ptr 1), (5, sl 2 m), (7, .int .i64 i)]
def e6O (a o n : Nat → Int) (k : Nat) (ma mo mn : Int) (g : Nat → Int) (m : Nat) : List (Option LO) := [some (ndL a o n k), some (moL ma mo mn), some (inL g m)]
def xG (a o n : Nat → Int) (k : Nat) (ma mo mn : Int) : Nat → Nat → Value := fun i j => vif (Nat.blt i (0 + k)) (ndG a o n (0 + (0 + i)) j) (lstG 3 1 [.int .u16 ma, .int .u8 mo, .int .u16 mn] (i - (0 + k)) j)
def xK (k : Nat) : Nat := 0 + k + 1
def moG (ma mo mn : Int) : Nat → Nat → Value := lstG 3 1 [.int .u16 ma, .int .u8 mo, .int .u16 mn]
def eT6 (k : Nat) : Bool := Nat.ble (0 + k) k && (true && Nat.ble (0 + k) 4294967296)
def eT9 (k : Nat) : Bool := true && (Nat.ble (0 + (0 + k)) k && ((Nat.beq k (0 + k) && true) && (Nat.ble 1 (0 + k) && Nat.ble (0 + k + 1) 4294967296)))
def eT10 (a o n : Nat → Int) (k : Nat) (ma mo mn : Int) : Bool := Nat.ble (0 + xK k) (xK k) && okN (xK k) (fun e x => xG a o n k ma mo mn (0 + e) x)
def eA (a o n : Nat → Int) (k : Nat) (ma mo mn : Int) : Nat → Int := aOf (xG a o n k ma mo mn)
def eO (a o n : Nat → Int) (k : Nat) (ma mo mn : Int) : Nat → Int := oOf (xG a o n k ma mo mn)
def eN (a o n : Nat → Int) (k : Nat) (ma mo mn : Int) : Nat → Int := nOf (xG a o n k ma mo mn)
def soW6 (k : Nat) : Int := IntKind.i64.wrap ((k : Int) - 1)
def eM (a o n : Nat → Int) (k : Nat) (ma mo mn : Int) : Nat := lsM (eA a o n k ma mo mn) (eO a o n k ma mo mn) (xK k)
def eX (a o n : Nat → Int) (k : Nat) (ma mo mn : Int) : Int := lsX (eA a o n k ma mo mn) (eO a o n k ma mo mn) (xK k)
def e6q (l : Path) : Path := (0,false)::(0,true)::(4,true)::(2,true)::(4,false)::(0,true)::(0,false)::(0,true)::(0,true)::(1,true)::(1,true)::(0,false)::(0,true)::(6,false)::l
def e6K2 : List KI := ((Ly.run cyX 40 (e6q []) (mkSt Try.f6 e6K1 none 1 (e6V1 0 0 0) (e6O zF zF zF 0 0 0 0 zF 0))).st e6D).top.k
def e6V2 (k m m2 : Nat) (i : Int) : List Value := slots 179 [(0, sls 0 k), (3, ptr 1), (5, sl 2 m), (10, sl 3 m2), (12, .int .i64 i)]
def e6O2 (a o n : Nat → Int) (k : Nat) (ma mo mn : Int) (g : Nat → Int) (m : Nat) (g2 : Nat → Int) (m2 : Nat) : List (Option LO) := [some (ndL a o n k), some (moL ma mo mn), some (inL g m), some (inL g2 m2)]
def e6K3 : List KI := ((Ly.run cyX 17 [(0, false)] (mkSt Try.f6 e6K2 none 1 (e6V2 0 0 0 0) (e6O2 zF zF zF 0 0 0 0 zF 0 zF 0))).st e6D).top.k
def e6V3b (k m m2 : Nat) (i : Int) : List Value := slots 179 [(0, sls 0 k), (5, sl 1 m), (10, sl 2 m2), (17, .int .i64 i)]
def rowMo (ma mo mn : Int) : Bool := true && (okN 1 (moG ma mo mn) && (List.range 1).all fun e => inb (oOf (moG ma mo mn) e))
def riMo (ma mo mn : Int) : Bool := !riN 1 (aOf (moG ma mo mn)) (oOf (moG ma mo mn))
def riL (a o : Nat → Int) (k : Nat) : Bool := !riN k (sh a) (sh o)
def eL1 (a o n : Nat → Int) (k : Nat) (i : Int) : Nat := (lsN a o n k i).1.length
def eP1 (a o n : Nat → Int) (k : Nat) (i : Int) : Bool := (lsN a o n k i).2
def eN2 (a o n : Nat → Int) (k : Nat) (ma mo mn i : Int) : List Int × Bool := lsN (eA a o n k ma mo mn) (eO a o n k ma mo mn) (eN a o n k ma mo mn) (xK k) i
def eG (a o n : Nat → Int) (k : Nat) (ma mo mn : Int) : Nat → Int := lsG (eA a o n k ma mo mn) (eO a o n k ma mo mn) (eN a o n k ma mo mn) (xK k)
def eT11 (a o n : Nat → Int) (k : Nat) (ma mo mn : Int) : Bool := lsT1 (eA a o n k ma mo mn) (eO a o n k ma mo mn) (eN a o n k ma mo mn) (xK k)
def eT12 (a o n : Nat → Int) (k : Nat) (ma mo mn : Int) : Bool := rowTn (eA a o n k ma mo mn) (eO a o n k ma mo mn) (eN a o n k ma mo mn) (xK k)
def laX6 (l : Nat) : Int := IntKind.i64.wrap ((l : Int) - 1)
def eLast (l : List Int) : Int := (l[0 + (laX6 l.length).toNat * 1]?).getD 0
theorem k6_0 (a o n g g2 : Nat → Int) (k m m2 : Nat) (ma mo mn i : Int) : headAt [0, 3, 5, 7] [0, 1, 4] e6D (Ly.run cyX 58 [(0, true), (1, true), (2, true), (2, true), (2, false), (0, true), (0, false), (0, true), (0, false), (0, true), (5, false)] (e6S a o n k ma mo mn)) = (true, [(decide ((40 : Int) < k) == false, true), (rowTr a o n k, true), (riL a o k == false, true), (rowMo ma mo mn, true), (riMo ma mo mn, false), (rowT a o n k, true), (Nat.beq k 0, false), (lsT1 a o n k, true), (Nat.beq (lsM a o k) 0, false), ((lsX a o k != 0) == false, true), (((lsM a o k : Nat) : Int) != k, false)], true, (Try.f6, e6K1, none, 1), e6V1 k (lsM a o k) 0, e6O a o n k ma mo mn (lsG a o n k) (lsM a o k)) := by kernel_rfl
theorem k6_1tt (a o n g g2 : Nat → Int) (k m m2 : Nat) (ma mo mn i : Int) : headAt [0, 3, 5, 7] [0, 1, 2] e6D (Ly.run cyX 62 [(0, true), (0, true), (0, false), (0, true), (0, true), (0, true), (2, true), (1, true), (2, false), (0, true), (0, true), (0, true), (2, true), (1, true), (2, false)] (mkSt Try.f6 e6K1 none 1 (e6V1 k m i) (e6O a o n k ma mo mn g m))) = (true, [(decide (i < k), true), (rowT a o n k, true), (Nat.beq k 0, false), (rowTn a o n k, true), (Nat.beq (eL1 a o n k i) 0, true), (eP1 a o n k i == true, true), (ixB m i, true), (Nat.blt (0 + i.toNat * 1) m, true), (gA g i != 31, false), (ixB m i, true), (Nat.blt (0 + i.toNat * 1) m, true), (decide (gA g i < 0) == false, true), (ixB m i, true), (Nat.blt (0 + i.toNat * 1) m, true), (decide (31 < gA g i), false)], true, (Try.f6, e6K1, none, 1), e6V1 k m (jW i), e6O a o n k ma mo mn g m) := by kernel_rfl
theorem k6_1tf (a o n g g2 : Nat → Int) (k m m2 : Nat) (ma mo mn i : Int) : headAt [0, 3, 5, 7] [0, 1, 2] e6D (Ly.run cyX 62 [(0, true), (0, true), (0, false), (0, true), (0, true), (0, false), (6, true), (0, true), (0, true), (2, true), (1, true), (2, false)] (mkSt Try.f6 e6K1 none 1 (e6V1 k m i) (e6O a o n k ma mo mn g m))) = (true, [(decide (i < k), true), (rowT a o n k, true), (Nat.beq k 0, false), (rowTn a o n k, true), (Nat.beq (eL1 a o n k i) 0, true), (eP1 a o n k i == true, false), (ixB m i, true), (Nat.blt (0 + i.toNat * 1) m, true), (decide (gA g i < 0) == false, true), (ixB m i, true), (Nat.blt (0 + i.toNat * 1) m, true), (decide (31 < gA g i), false)], true, (Try.f6, e6K1, none, 1), e6V1 k m (jW i), e6O a o n k ma mo mn g m) := by kernel_rfl
theorem k6_1ft (a o n g g2 : Nat → Int) (k m m2 : Nat) (ma mo mn i : Int) : headAt [0, 3, 5, 7] [0, 1, 2] e6D (Ly.run cyX 62 [(0, true), (0, true), (0, false), (0, true), (0, false), (0, true), (2, true), (1, true), (2, false), (0, true), (0, true), (0, true), (2, true), (1, true), (2, false)] (mkSt Try.f6 e6K1 none 1 (e6V1 k m i) (e6O a o n k ma mo mn g m))) = (true, [(decide (i < k), true), (rowT a o n k, true), (Nat.beq k 0, false), (rowTn a o n k, true), (Nat.beq (eL1 a o n k i) 0, false), (eP1 a o n k i == true, true), (ixB m i, true), (Nat.blt (0 + i.toNat * 1) m, true), (gA g i != 31, false), (ixB m i, true), (Nat.blt (0 + i.toNat * 1) m, true), (decide (gA g i < 0) == false, true), (ixB m i, true), (Nat.blt (0 + i.toNat * 1) m, true), (decide (31 < gA g i), false)], true, (Try.f6, e6K1, none, 1), e6V1 k m (jW i), e6O a o n k ma mo mn g m) := by kernel_rfl
theorem k6_1ff (a o n g g2 : Nat → Int) (k m m2 : Nat) (ma mo mn i : Int) : headAt [0, 3, 5, 7] [0, 1, 2] e6D (Ly.run cyX 62 [(0, true), (0, true), (0, false), (0, true), (0, false), (0, false), (6, true), (0, true), (0, true), (2, true), (1, true), (2, false)] (mkSt Try.f6 e6K1 none 1 (e6V1 k m i) (e6O a o n k ma mo mn g m))) = (true, [(decide (i < k), true), (rowT a o n k, true), (Nat.beq k 0, false), (rowTn a o n k, true), (Nat.beq (eL1 a o n k i) 0, false), (eP1 a o n k i == true, false), (ixB m i, true), (Nat.blt (0 + i.toNat * 1) m, true), (decide (gA g i < 0) == false, true), (ixB m i, true), (Nat.blt (0 + i.toNat * 1) m, true), (decide (31 < gA g i), false)], true, (Try.f6, e6K1, none, 1), e6V1 k m (jW i), e6O a o n k ma mo mn g m) := by kernel_rfl
theorem k6_2 (a o n g g2 : Nat → Int) (k m m2 : Nat) (ma mo mn i : Int) : headAt [0, 3, 5, 10, 12] [0, 1, 2, 8] e6D (Ly.run cyX 40 [(0, false), (0, true), (4, true), (2, true), (4, false), (0, true), (0, false), (0, true), (0, true), (1, true), (1, true), (0, false), (0, true), (6, false)] (mkSt Try.f6 e6K1 none 1 (e6V1 k m i) (e6O a o n k ma mo mn g m))) = (true, [(decide (i < k), false), (decide ((0 : Int) < k) == true, true), (ixB k (soW6 k), true), (Nat.blt (0 + (soW6 k).toNat) k, true), (decide (ma ≤ a (0 + (soW6 k).toNat)), false), (eT6 k, true), (Nat.ble (0 + k) 0, false), (Nat.ble 1 (0 + k), true), (eT9 k, true), (eT10 a o n k ma mo mn, true), (eT11 a o n k ma mo mn, true), (Nat.beq (eM a o n k ma mo mn) 0, false), ((eX a o n k ma mo mn != 0) == false, true), (((eM a o n k ma mo mn : Nat) : Int) != IntKind.i64.wrap ((k : Int) + 1), false)], true, (Try.f6, e6K2, none, 1), e6V2 k m (eM a o n k ma mo mn) 0, e6O2 a o n k ma mo mn g m (eG a o n k ma mo mn) (eM a o n k ma mo mn)) := by kernel_rfl
theorem k6_3tt (a o n g g2 : Nat → Int) (k m m2 : Nat) (ma mo mn i : Int) : headAt [0, 3, 5, 10, 12] [0, 1, 2, 3] e6D (Ly.run cyX 57 [(0, true), (0, true), (0, false), (0, true), (0, true), (1, true), (1, true), (0, true), (0, true), (0, false), (0, true), (0, true), (0, true)] (mkSt Try.f6 e6K2 none 1 (e6V2 k m m2 i) (e6O2 a o n k ma mo mn g m g2 m2))) = (true, [(decide (i < k), true), (eT6 k, true), (Nat.ble (0 + k) 0, false), (Nat.ble 1 (0 + k), true), (eT9 k, true), (eT10 a o n k ma mo mn, true), (eT12 a o n k ma mo mn, true), (Nat.beq (eN2 a o n k ma mo mn i).1.length 0, true), (rowT a o n k, true), (Nat.beq k 0, false), (rowTn a o n k, true), (Nat.beq (eL1 a o n k i) 0, true), (((eN2 a o n k ma mo mn i).2 != eP1 a o n k i) == false, true)], true, (Try.f6, e6K2, none, 1), e6V2 k m m2 (jW i), e6O2 a o n k ma mo mn g m g2 m2) := by kernel_rfl
theorem k6_3tf (a o n g g2 : Nat → Int) (k m m2 : Nat) (ma mo mn i : Int) : headAt [0, 3, 5, 10, 12] [0, 1, 2, 3] e6D (Ly.run cyX 57 [(0, true), (0, true), (0, false), (0, true), (0, true), (1, true), (1, true), (0, true), (0, true), (0, false), (0, true), (0, false), (0, true)] (mkSt Try.f6 e6K2 none 1 (e6V2 k m m2 i) (e6O2 a o n k ma mo mn g m g2 m2))) = (true, [(decide (i < k), true), (eT6 k, true), (Nat.ble (0 + k) 0, false), (Nat.ble 1 (0 + k), true), (eT9 k, true), (eT10 a o n k ma mo mn, true), (eT12 a o n k ma mo mn, true), (Nat.beq (eN2 a o n k ma mo mn i).1.length 0, true), (rowT a o n k, true), (Nat.beq k 0, false), (rowTn a o n k, true), (Nat.beq (eL1 a o n k i) 0, false), (((eN2 a o n k ma mo mn i).2 != eP1 a o n k i) == false, true)], true, (Try.f6, e6K2, none, 1), e6V2 k m m2 (jW i), e6O2 a o n k ma mo mn g m g2 m2) := by kernel_rfl
theorem k6_3ft (a o n g g2 : Nat → Int) (k m m2 : Nat) (ma mo mn i : Int) : headAt [0, 3, 5, 10, 12] [0, 1, 2, 3] e6D (Ly.run cyX 57 [(0, true), (0, true), (0, false), (0, true), (0, true), (1, true), (1, true), (0, false), (0, true), (0, false), (0, true), (0, true), (0, true), (3, true), (4, true), (1, true), (6, false)] (mkSt Try.f6 e6K2 none 1 (e6V2 k m m2 i) (e6O2 a o n k ma mo mn g m g2 m2))) = (true, [(decide (i < k), true), (eT6 k, true), (Nat.ble (0 + k) 0, false), (Nat.ble 1 (0 + k), true), (eT9 k, true), (eT10 a o n k ma mo mn, true), (eT12 a o n k ma mo mn, true), (Nat.beq (eN2 a o n k ma mo mn i).1.length 0, false), (rowT a o n k, true), (Nat.beq k 0, false), (rowTn a o n k, true), (Nat.beq (eL1 a o n k i) 0, true), (((eN2 a o n k ma mo mn i).2 != eP1 a o n k i) == false, true), (decide ((0 : Int) < ((eN2 a o n k ma mo mn i).1.length : Nat)) == true, true), (ixB (eN2 a o n k ma mo mn i).1.length (laX6 (eN2 a o n k ma mo mn i).1.length), true), (Nat.blt (0 + (laX6 (eN2 a o n k ma mo mn i).1.length).toNat * 1) (eN2 a o n k ma mo mn i).1.length, true), (eLast (eN2 a o n k ma mo mn i).1 == k, false)], true, (Try.f6, e6K2, none, 1), e6V2 k m m2 (jW i), e6O2 a o n k ma mo mn g m g2 m2) := by kernel_rfl
theorem k6_3ff (a o n g g2 : Nat → Int) (k m m2 : Nat) (ma mo mn i : Int) : headAt [0, 3, 5, 10, 12] [0, 1, 2, 3] e6D (Ly.run cyX 57 [(0, true), (0, true), (0, false), (0, true), (0, true), (1, true), (1, true), (0, false), (0, true), (0, false), (0, true), (0, false), (0, true), (3, true), (4, true), (1, true), (6, false)] (mkSt Try.f6 e6K2 none 1 (e6V2 k m m2 i) (e6O2 a o n k ma mo mn g m g2 m2))) = (true, [(decide (i < k), true), (eT6 k, true), (Nat.ble (0 + k) 0, false), (Nat.ble 1 (0 + k), true), (eT9 k, true), (eT10 a o n k ma mo mn, true), (eT12 a o n k ma mo mn, true), (Nat.beq (eN2 a o n k ma mo mn i).1.length 0, false), (rowT a o n k, true), (Nat.beq k 0, false), (rowTn a o n k, true), (Nat.beq (eL1 a o n k i) 0, false), (((eN2 a o n k ma mo mn i).2 != eP1 a o n k i) == false, true), (decide ((0 : Int) < ((eN2 a o n k ma mo mn i).1.length : Nat)) == true, true), (ixB (eN2 a o n k ma mo mn i).1.length (laX6 (eN2 a o n k ma mo mn i).1.length), true), (Nat.blt (0 + (laX6 (eN2 a o n k ma mo mn i).1.length).toNat * 1) (eN2 a o n k ma mo mn i).1.length, true), (eLast (eN2 a o n k ma mo mn i).1 == k, false)], true, (Try.f6, e6K2, none, 1), e6V2 k m m2 (jW i), e6O2 a o n k ma mo mn g m g2 m2) := by kernel_rfl
theorem k6_4 (a o n g g2 : Nat → Int) (k m m2 : Nat) (ma mo mn i : Int) : headAt [0, 5, 10, 17] [0, 2, 3] e6D (Ly.run cyX 17 [(0, false)] (mkSt Try.f6 e6K2 none 1 (e6V2 k m m2 i) (e6O2 a o n k ma mo mn g m g2 m2))) = (true, [(decide (i < k), false)], true, (Try.f6, e6K3, none, 1), e6V3b k m m2 0, [some (ndL a o n k), some (inL g m), some (inL g2 m2)]) := by kernel_rfl
theorem k6_5 (a o n g g2 : Nat → Int) (k m m2 : Nat) (ma mo mn i : Int) : headAt [0, 5, 10, 17] [0, 1, 2] e6D (Ly.run cyX 23 [(0, true), (0, true), (0, true), (0, true), (0, true), (0, false)] (mkSt Try.f6 e6K3 none 1 (e6V3b k m m2 i) [some (ndL a o n k), some (inL g m), some (inL g2 m2)])) = (true, [(decide (i < k), true), (ixB m2 i, true), (Nat.blt (0 + i.toNat * 1) m2, true), (ixB m i, true), (Nat.blt (0 + i.toNat * 1) m, true), (gA g2 i != gA g i, false)], true, (Try.f6, e6K3, none, 1), e6V3b k m m2 (jW i), [some (ndL a o n k), some (inL g m), some (inL g2 m2)]) := by kernel_rfl
theorem k6_z1 (a o n g g2 : Nat → Int) (k m m2 : Nat) (ma mo mn i : Int) : (Ly.run cyX 9000 [(0, false)] (e6S a o n k ma mo mn)).out? = some ([(decide ((40 : Int) < k) == false, false)], .bool true) := by kernel_rfl
theorem k6_z2 (a o n g g2 : Nat → Int) (k m m2 : Nat) (ma mo mn i : Int) : (Ly.run cyX 9000 [(0, true), (1, true), (2, false)] (e6S a o n k ma mo mn)).out? = some ([(decide ((40 : Int) < k) == false, true), (rowTr a o n k, true), (riL a o k == false, false)], .bool true) := by kernel_rfl
theorem k6_z3 (a o n g g2 : Nat → Int) (k m m2 : Nat) (ma mo mn i : Int) : (Ly.run cyX 9000 [(0, true), (1, true), (2, true), (2, true), (2, true)] (e6S a o n k ma mo mn)).out? = some ([(decide ((40 : Int) < k) == false, true), (rowTr a o n k, true), (riL a o k == false, true), (rowMo ma mo mn, true), (riMo ma mo mn, true)], .bool true) := by kernel_rfl
theorem k6_z4 (a o n g g2 : Nat → Int) (k m m2 : Nat) (ma mo mn i : Int) : (Ly.run cyX 9000 [(0, false), (0, true), (4, true), (2, true), (4, true)] (mkSt Try.f6 e6K1 none 1 (e6V1 k m i) (e6O a o n k ma mo mn g m))).out? = some ([(decide (i < k), false), (decide ((0 : Int) < k) == true, true), (ixB k (soW6 k), true), (Nat.blt (0 + (soW6 k).toNat) k, true), (decide (ma ≤ a (0 + (soW6 k).toNat)), true)], .bool true) := by kernel_rfl
theorem k6_z5tt (a o n g g2 : Nat → Int) (k m m2 : Nat) (ma mo mn i : Int) : (Ly.run cyX 9000 [(0, true), (0, true), (0, false), (0, true), (0, true), (1, true), (1, true), (0, true), (0, true), (0, false), (0, true), (0, true), (0, false)] (mkSt Try.f6 e6K2 none 1 (e6V2 k m m2 i) (e6O2 a o n k ma mo mn g m g2 m2))).out? = some ([(decide (i < k), true), (eT6 k, true), (Nat.ble (0 + k) 0, false), (Nat.ble 1 (0 + k), true), (eT9 k, true), (eT10 a o n k ma mo mn, true), (eT12 a o n k ma mo mn, true), (Nat.beq (eN2 a o n k ma mo mn i).1.length 0, true), (rowT a o n k, true), (Nat.beq k 0, false), (rowTn a o n k, true), (Nat.beq (eL1 a o n k i) 0, true), (((eN2 a o n k ma mo mn i).2 != eP1 a o n k i) == false, false)], .bool true) := by kernel_rfl
theorem k6_z5tf (a o n g g2 : Nat → Int) (k m m2 : Nat) (ma mo mn i : Int) : (Ly.run cyX 9000 [(0, true), (0, true), (0, false), (0, true), (0, true), (1, true), (1, true), (0, true), (0, true), (0, false), (0, true), (0, false), (0, false)] (mkSt Try.f6 e6K2 none 1 (e6V2 k m m2 i) (e6O2 a o n k ma mo mn g m g2 m2))).out? = some ([(decide (i < k), true), (eT6 k, true), (Nat.ble (0 + k) 0, false), (Nat.ble 1 (0 + k), true), (eT9 k, true), (eT10 a o n k ma mo mn, true), (eT12 a o n k ma mo mn, true), (Nat.beq (eN2 a o n k ma mo mn i).1.length 0, true), (rowT a o n k, true), (Nat.beq k 0, false), (rowTn a o n k, true), (Nat.beq (eL1 a o n k i) 0, false), (((eN2 a o n k ma mo mn i).2 != eP1 a o n k i) == false, false)], .bool true) := by kernel_rfl
theorem k6_z5ft (a o n g g2 : Nat → Int) (k m m2 : Nat) (ma mo mn i : Int) : (Ly.run cyX 9000 [(0, true), (0, true), (0, false), (0, true), (0, true), (1, true), (1, true), (0, false), (0, true), (0, false), (0, true), (0, true), (0, false)] (mkSt Try.f6 e6K2 none 1 (e6V2 k m m2 i) (e6O2 a o n k ma mo mn g m g2 m2))).out? = some ([(decide (i < k), true), (eT6 k, true), (Nat.ble (0 + k) 0, false), (Nat.ble 1 (0 + k), true), (eT9 k, true), (eT10 a o n k ma mo mn, true), (eT12 a o n k ma mo mn, true), (Nat.beq (eN2 a o n k ma mo mn i).1.length 0, false), (rowT a o n k, true), (Nat.beq k 0, false), (rowTn a o n k, true), (Nat.beq (eL1 a o n k i) 0, true), (((eN2 a o n k ma mo mn i).2 != eP1 a o n k i) == false, false)], .bool true) := by kernel_rfl
theorem k6_z6t (a o n g g2 : Nat → Int) (k m m2 : Nat) (ma mo mn i : Int) : (Ly.run cyX 9000 [(0, true), (0, true), (0, false), (0, true), (0, true), (1, true), (1, true), (0, false), (0, true), (0, false), (0, true), (0, true), (0, true), (3, true), (4, true), (1, true), (6, true)] (mkSt Try.f6 e6K2 none 1 (e6V2 k m m2 i) (e6O2 a o n k ma mo mn g m g2 m2))).out? = some ([(decide (i < k), true), (eT6 k, true), (Nat.ble (0 + k) 0, false), (Nat.ble 1 (0 + k), true), (eT9 k, true), (eT10 a o n k ma mo mn, true), (eT12 a o n k ma mo mn, true), (Nat.beq (eN2 a o n k ma mo mn i).1.length 0, false), (rowT a o n k, true), (Nat.beq k 0, false), (rowTn a o n k, true), (Nat.beq (eL1 a o n k i) 0, true), (((eN2 a o n k ma mo mn i).2 != eP1 a o n k i) == false, true), (decide ((0 : Int) < ((eN2 a o n k ma mo mn i).1.length : Nat)) == true, true), (ixB (eN2 a o n k ma mo mn i).1.length (laX6 (eN2 a o n k ma mo mn i).1.length), true), (Nat.blt (0 + (laX6 (eN2 a o n k ma mo mn i).1.length).toNat * 1) (eN2 a o n k ma mo mn i).1.length, true), (eLast (eN2 a o n k ma mo mn i).1 == k, true)], .bool true) := by kernel_rfl
theorem k6_z5ff (a o n g g2 : Nat → Int) (k m m2 : Nat) (ma mo mn i : Int) : (Ly.run cyX 9000 [(0, true), (0, true), (0, false), (0, true), (0, true), (1, true), (1, true), (0, false), (0, true), (0, false), (0, true), (0, false), (0, false)] (mkSt Try.f6 e6K2 none 1 (e6V2 k m m2 i) (e6O2 a o n k ma mo mn g m g2 m2))).out? = some ([(decide (i < k), true), (eT6 k, true), (Nat.ble (0 + k) 0, false), (Nat.ble 1 (0 + k), true), (eT9 k, true), (eT10 a o n k ma mo mn, true), (eT12 a o n k ma mo mn, true), (Nat.beq (eN2 a o n k ma mo mn i).1.length 0, false), (rowT a o n k, true), (Nat.beq k 0, false), (rowTn a o n k, true), (Nat.beq (eL1 a o n k i) 0, false), (((eN2 a o n k ma mo mn i).2 != eP1 a o n k i) == false, false)], .bool true) := by kernel_rfl
theorem k6_z6f (a o n g g2 : Nat → Int) (k m m2 : Nat) (ma mo mn i : Int) : (Ly.run cyX 9000 [(0, true), (0, true), (0, false), (0, true), (0, true), (1, true), (1, true), (0, false), (0, true), (0, false), (0, true), (0, false), (0, true), (3, true), (4, true), (1, true), (6, true)] (mkSt Try.f6 e6K2 none 1 (e6V2 k m m2 i) (e6O2 a o n k ma mo mn g m g2 m2))).out? = some ([(decide (i < k), true), (eT6 k, true), (Nat.ble (0 + k) 0, false), (Nat.ble 1 (0 + k), true), (eT9 k, true), (eT10 a o n k ma mo mn, true), (eT12 a o n k ma mo mn, true), (Nat.beq (eN2 a o n k ma mo mn i).1.length 0, false), (rowT a o n k, true), (Nat.beq k 0, false), (rowTn a o n k, true), (Nat.beq (eL1 a o n k i) 0, false), (((eN2 a o n k ma mo mn i).2 != eP1 a o n k i) == false, true), (decide ((0 : Int) < ((eN2 a o n k ma mo mn i).1.length : Nat)) == true, true), (ixB (eN2 a o n k ma mo mn i).1.length (laX6 (eN2 a o n k ma mo mn i).1.length), true), (Nat.blt (0 + (laX6 (eN2 a o n k ma mo mn i).1.length).toNat * 1) (eN2 a o n k ma mo mn i).1.length, true), (eLast (eN2 a o n k ma mo mn i).1 == k, true)], .bool true) := by kernel_rfl
theorem k6_z7 (a o n g g2 : Nat → Int) (k m m2 : Nat) (ma mo mn i : Int) : (Ly.run cyX 9000 [(0, false)] (mkSt Try.f6 e6K3 none 1 (e6V3b k m m2 i) [some (ndL a o n k), some (inL g m), some (inL g2 m2)])).out? = some ([(decide (i < k), false)], .bool true) := by kernel_rfl
end Go.Proofs.Ytdjmpilegommlaa
namespace Go.Proofs.Ytdjmpilegommlaa
open Go Go.Ly Go.RowKit
section
variable (a o n : Nat → Int) (k : Nat) (ma mo mn : Int)
theorem xG_lt {e j : Nat} (he : e < k) : xG a o n k ma mo mn e j = ndG a o n e j := by
  unfold xG
  rw [vif_eq, show Nat.blt e (0 + k) = true by rw [Nat.blt_eq]; omega, cond_true, show 0 + (0 + e) = e by omega]
theorem xG_k (j : Nat) : xG a o n k ma mo mn k j = moG ma mo mn 0 j := by
  unfold xG
  rw [vif_eq, show Nat.blt k (0 + k) = false from Bool.eq_false_iff.2 fun h => by rw [Nat.blt_eq] at h; omega, cond_false, show k - (0 + k) = 0 by omega]; rfl
theorem eA_lt {e : Nat} (he : e < k) : eA a o n k ma mo mn e = a e := by show intV (xG a o n k ma mo mn e 0) = _; rw [xG_lt _ _ _ _ _ _ _ he]; rfl
theorem eO_lt {e : Nat} (he : e < k) : eO a o n k ma mo mn e = o e := by show intV (xG a o n k ma mo mn e 1) = _; rw [xG_lt _ _ _ _ _ _ _ he]; rfl
theorem eN_lt {e : Nat} (he : e < k) : eN a o n k ma mo mn e = n e := by show intV (xG a o n k ma mo mn e 2) = _; rw [xG_lt _ _ _ _ _ _ _ he]; rfl
theorem eA_k : eA a o n k ma mo mn k = ma := by show intV (xG a o n k ma mo mn k 0) = _; rw [xG_k]; rfl
theorem eO_k : eO a o n k ma mo mn k = mo := by show intV (xG a o n k ma mo mn k 1) = _; rw [xG_k]; rfl
theorem xK_eq : xK k = k + 1 := by unfold xK; omega
theorem eT10_ok (hk : k ≤ 100) : eT10 a o n k ma mo mn = true := by
  unfold eT10
  rw [show (fun e x => xG a o n k ma mo mn (0 + e) x) = xG a o n k ma mo mn by funext e x; rw [Nat.zero_add], xK_eq, show Nat.ble (0 + (k + 1)) (k + 1) = true from Nat.ble_eq_true_of_le (by omega)]
  simp only [okN, Bool.true_and, Bool.and_eq_true, List.all_eq_true, List.mem_range]
  refine ⟨Nat.ble_eq_true_of_le (by omega), fun e he => ?_⟩
  by_cases h : e < k
  · rw [xG_lt _ _ _ _ _ _ _ h, xG_lt _ _ _ _ _ _ _ h, xG_lt _ _ _ _ _ _ _ h]; exact ⟨rfl, rfl, rfl⟩
  · obtain rfl : e = k := by omega
    rw [xG_k, xG_k, xG_k]; exact ⟨rfl, rfl, rfl⟩
end
theorem riF_snoc (a o : Nat → Int) : ∀ (d i : Nat), riF a o (d + 1) i = (riF a o d i && !riB a o (i + d))
  | 0, i => by
    show (bif riB a o i then false else riF a o 0 (i + 1)) = _
    unfold riF; cases riB a o (i + 0) <;> simp_all
  | d + 1, i => by
    have ih := riF_snoc a o d (i + 1)
    rw [show i + 1 + d = i + (d + 1) by omega] at ih
    show (bif riB a o i then false else riF a o (d + 1) (i + 1)) = ((bif riB a o i then false else riF a o d (i + 1)) && _)
    rw [ih]
    cases riB a o i <;> simp
theorem riB_congr {a o a' o' : Nat → Int} {i : Nat} (ha : ∀ e, e ≤ i → a e = a' e) (ho : o i = o' i) : riB a o i = riB a' o' i := by
  unfold riB; rw [ha i (Nat.le_refl _), ha (i - 1) (by omega), ho]
theorem riF_congr {a o a' o' : Nat → Int} : ∀ (d i : Nat), (∀ e, e < i + d → a e = a' e) → (∀ e, e < i + d → o e = o' e) → riF a o d i = riF a' o' d i
  | 0, i, _, _ => rfl
  | d + 1, i, ha, ho => by
    unfold riF
    rw [riB_congr (fun e he => ha e (by omega)) (ho i (by omega)), riF_congr d (i + 1) (fun e he => ha e (by omega)) (fun e he => ho e (by omega))]
theorem riN_more {a o n : Nat → Int} {k : Nat} {ma mo mn : Int} (h : riN k a o = true) (hs : (sizeT mo == 0) = false) (hl : k = 0 ∨ a (k - 1) < ma) : riN (xK k) (eA a o n k ma mo mn) (eO a o n k ma mo mn) = true := by
  unfold riN at h ⊢
  rw [xK_eq, riF_snoc, riF_congr (a' := a) (o' := o) k 0 (fun e he => eA_lt _ _ _ _ _ _ _ (by omega)) (fun e he => eO_lt _ _ _ _ _ _ _ (by omega)), h, Nat.zero_add]
  unfold riB
  rw [eO_k, hs, Bool.or_false, Bool.true_and]
  rcases hl with rfl | hl
  · rfl
  · by_cases hk : k = 0
    · subst hk; rfl
    · rw [eA_k, eA_lt a o n k ma mo mn (show k - 1 < k by omega), show Nat.beq k 0 = false from Bool.eq_false_iff.2 fun h => hk (Nat.eq_of_beq_eq_true h), cond_false]
      simpa using hl
theorem eLast_1 (x : Int) : eLast [x] = x := by
  have : (laX6 1).toNat = 0 := by unfold laX6; rw [IntKind.wrap_i64]; rfl
  show (([x] : List Int)[0 + (laX6 1).toNat * 1]?).getD 0 = x
  rw [this]; rfl
theorem eLast_2 (x y : Int) : eLast [x, y] = y := by
  have : (laX6 2).toNat = 1 := by unfold laX6; rw [IntKind.wrap_i64]; rfl
  show (([x, y] : List Int)[0 + (laX6 2).toNat * 1]?).getD 0 = y
  rw [this]; rfl
def NoK (k : Nat) (l : List Int) : Prop := l = [] ∨ eLast l ≠ k
theorem one_ext {u u' : Int} {k : Nat} {r : Bool} (h : u' = u ∨ u' = k) (hl : NoK k (nxOne u' r).1) : nxOne u' r = nxOne u r := by
  rcases h with rfl | rfl
  · rfl
  · exfalso
    have e : nxOne (k : Int) r = ([(k : Int)], r) := by unfold nxOne; rw [decide_eq_false (by omega)]; rfl
    rw [e] at hl
    rcases hl with h | h
    · cases h
    · exact h (eLast_1 _)
theorem two_last {u v : Int} {k : Nat} {r : Bool} (hu : u ≤ k) (hv : v ≤ k) (h : u = k ∨ v = k) : ¬ NoK k (nxTwo u v r).1 := by
  unfold nxTwo
  by_cases u0 : u < 0
  · rw [decide_eq_true u0]
    obtain rfl : v = k := by omega
    rw [decide_eq_false (show ¬ ((k : Int) < 0) by omega)]
    rintro (h | h)
    · cases h
    · exact h (eLast_1 _)
  · rw [decide_eq_false u0]
    by_cases v0 : v < 0
    · rw [decide_eq_true v0]
      obtain rfl : u = k := by omega
      rintro (h | h)
      · cases h
      · exact h (eLast_1 _)
    · rw [decide_eq_false v0]
      by_cases h1 : v < u
      · rw [decide_eq_true h1]
        obtain rfl : u = k := by omega
        rintro (h | h)
        · cases h
        · exact h (eLast_2 _ _)
      · rw [decide_eq_false h1]
        obtain rfl : v = k := by omega
        by_cases h2 : u = (k : Int)
        · subst h2
          rw [beq_self_eq_true]
          rintro (h | h)
          · cases h
          · exact h (eLast_1 _)
        · rw [show ((k : Int) == u) = false from by simp; omega]
          rintro (h | h)
          · cases h
          · exact h (eLast_2 _ _)
theorem two_ext {u u' v v' : Int} {k : Nat} {r : Bool} (hu : u' = u ∨ u' = k) (hv : v' = v ∨ v' = k) (lu : u' ≤ k) (lv : v' ≤ k) (hl : NoK k (nxTwo u' v' r).1) : nxTwo u' v' r = nxTwo u v r := by
  rcases hu with rfl | h1
  · rcases hv with rfl | h2
    · rfl
    · exact absurd hl (two_last lu lv (.inr h2))
  · exact absurd hl (two_last lu lv (.inl h1))
theorem ixF_snoc (a : Nat → Int) (x : Int) : ∀ (d i : Nat), ixF a x (d + 1) i = ixF a x d i ∨ ixF a x (d + 1) i = ((i + d : Nat) : Int)
  | 0, i => by
    show (bif a i == x then (i : Int) else -1) = (-1 : Int) ∨ (bif a i == x then (i : Int) else -1) = ((i + 0 : Nat) : Int)
    cases (a i == x)
    · exact .inl rfl
    · exact .inr rfl
  | d + 1, i => by
    show (bif a i == x then (i : Int) else ixF a x (d + 1) (i + 1)) = (bif a i == x then (i : Int) else ixF a x d (i + 1)) ∨ (bif a i == x then (i : Int) else ixF a x (d + 1) (i + 1)) = _
    cases (a i == x) with
    | true => exact .inl rfl
    | false =>
      rw [cond_false, cond_false, show i + (d + 1) = i + 1 + d by omega]
      exact ixF_snoc a x d (i + 1)
theorem ixF_cg {a b : Nat → Int} {x : Int} : ∀ (d i : Nat), (∀ e, i ≤ e → e < i + d → a e = b e) → ixF a x d i = ixF b x d i
  | 0, i, h => rfl
  | d + 1, i, h => by
    unfold ixF
    rw [h i (by omega) (by omega), ixF_cg d (i + 1) (fun e h1 h2 => h e (by omega) (by omega))]
theorem ixF_le {a : Nat → Int} {x : Int} : ∀ (d i : Nat), ixF a x d i < ((i + d : Nat) : Int)
  | 0, i => by unfold ixF; omega
  | d + 1, i => by
    unfold ixF
    cases (a i == x) with
    | true => rw [cond_true]; omega
    | false => rw [cond_false]; have := @ixF_le a x d (i + 1); omega
section
variable {a o n A O N' : Nat → Int} {k : Nat}
theorem atN_ext (hA : ∀ e, e < k → A e = a e) (x : Int) : (atN (k + 1) A x = atN k a x ∨ atN (k + 1) A x = k) ∧ atN (k + 1) A x ≤ k := by
  have h1 := ixF_snoc A x k 0
  have h2 := @ixF_le A x (k + 1) 0
  rw [ixF_cg (b := a) k 0 (fun e _ he => hA e (by omega))] at h1
  unfold atN
  rw [Nat.zero_add] at h1
  exact ⟨h1, by omega⟩
theorem nx_ext (hA : ∀ e, e < k → A e = a e) (hO : ∀ e, e < k → O e = o e) (hN : ∀ e, e < k → N' e = n e) {i : Nat} (hi : i < k) (hl : NoK k (nxF (k + 1) A O N' i).1) : nxF (k + 1) A O N' i = nxF k a o n i := by
  have e1 : nxF (k + 1) A O N' i = nxI (k + 1) A O N' i := by unfold nxF; rw [decide_eq_false (show ¬ ((i : Int) < 0) by omega), decide_eq_false (show ¬ (((k + 1 : Nat) : Int) ≤ i) by omega)]; rfl
  have e2 : nxF k a o n i = nxI k a o n i := by unfold nxF; rw [decide_eq_false (show ¬ ((i : Int) < 0) by omega), decide_eq_false (show ¬ ((k : Int) ≤ i) by omega)]; rfl
  have i3 : 0 + (i : Int).toNat = i := by omega
  have xo : xO O (i : Int) = xO o i := by unfold xO; rw [i3, hO i hi]
  have xn : xN N' (i : Int) = xN n i := by unfold xN; rw [i3, hN i hi]
  have xr : xR O (i : Int) = xR o i := by unfold xR; rw [xo]
  have xb : xB A O (i : Int) = xB a o i := by unfold xB; rw [i3, hA i hi, xo]
  have m9 : m99 O (i : Int) = m99 o i := by unfold m99; rw [xo]
  have rt : rtn O (i : Int) = rtn o i := by unfold rtn; rw [xo]
  have hs : ∀ e, e < k → sh A e = sh a e := by intro e he; rw [sh_eq, sh_eq]; exact hA e he
  have aNe := atN_ext hs (xN n i)
  have aRe := atN_ext hs (xR o i)
  have aBe := atN_ext hs (xB a o i)
  rw [e1] at hl ⊢
  rw [e2]
  unfold nxI aN aR aB at hl ⊢
  rw [xo, xn, xr, xb, m9, rt] at hl ⊢
  cases c1 : (xO o (i : Int) == 205) with
  | true => rw [c1] at hl; exact one_ext aNe.1 hl
  | false =>
    rw [c1] at hl
    simp only [cond_false] at hl ⊢
    cases c2 : m99 o (i : Int) with
    | true => rw [c2] at hl; exact one_ext aRe.1 hl
    | false =>
      rw [c2] at hl
      simp only [cond_false] at hl ⊢
      cases c3 : endsB (xO o (i : Int)) with
      | true =>
        rw [c3] at hl
        simp only [cond_true] at hl ⊢
        cases c4 : (xO o (i : Int) == 195) with
        | true => rw [c4] at hl; exact one_ext aNe.1 hl
        | false => rfl
      | false =>
        rw [c3] at hl
        simp only [cond_false] at hl ⊢
        cases c4 : jumpsB (xO o (i : Int)) with
        | true => rw [c4] at hl; exact two_ext aNe.1 aBe.1 aNe.2 aBe.2 hl
        | false => rw [c4] at hl; exact one_ext aBe.1 hl
theorem sub31 {x : Nat} (h : x < 32) : Sub x 31 := by
  have : ∀ y : Fin 32, y.1 ||| 31 = 31 := by decide
  exact this ⟨x, h⟩
theorem live_ext (hto : ∀ i : Nat, i < k → nxF (k + 1) A O N' i = nxF k a o n i) (hO : ∀ e, e < k → O e = o e) {x : Nat} (hx : x < k) : livN A O N' (k + 1) x = livN a o n k x := by
  have hT : ∀ x, x < k → toL A O N' (k + 1) x = toL a o n k x := by
    intro x hx; unfold toL nxS; rw [sh_eq, sh_eq, sh_eq, sh_eq, sh_eq, sh_eq, hto x hx]
  have hP : ∀ x, x < k → opL A O N' (k + 1) x = opL a o n k x := by
    intro x hx; unfold opL nxS; rw [sh_eq, sh_eq, sh_eq, sh_eq, sh_eq, sh_eq, hto x hx]
  have hB : ∀ x, x < k → bsN A O N' (k + 1) x = bsN a o n k x := by
    intro x hx; unfold bsN; rw [hP x hx, show Nat.blt x (k + 1) = true by rw [Nat.blt_eq]; omega, show Nat.blt x k = true by rw [Nat.blt_eq]; omega]
  have hI : ∀ (h h' : Nat → Nat) e, e < k → h e = h' e → inN (usN O) (ssN O) h e = inN (usN o) (ssN o) h' e := by
    intro h h' e he hh; unfold inN usN ssN; rw [hO e he, hh]
  have hG := livN_least A O N' (k + 1)
  have hL := livN_least a o n k
  refine Sub.anti ?_ ?_
  · have := hG.least (fun e => if e < k then livN a o n k e else 31) ⟨fun y hy => ?_, fun e y he hy => ?_⟩ x (by omega)
    · simpa [hx] using this
    · by_cases h : y < k
      · simp only [h, if_true]; rw [hB y h]; exact hL.pre.base y h
      · simp only [h, if_false]; exact sub31 (bsN_lt _ _ _ _ _)
    · have hy' := prL_in.1 hy
      by_cases h : y < k
      · simp only [h, if_true]
        rw [hT y h] at hy'
        have he' : e < k := toL_in hy'.2
        rw [hI _ (livN a o n k) e he' (by simp [he'])]
        exact hL.pre.edge e y he' (prL_in.2 ⟨h, hy'.2⟩)
      · simp only [h, if_false]
        refine sub31 (or_lt (usN_lt _ _) (and_lt _ ?_))
        show (if e < k then livN a o n k e else 31) < 32
        split
        · exact hL.lt e
        · decide
  · refine hL.least (livN A O N' (k + 1)) ⟨fun y hy => ?_, fun e y he hy => ?_⟩ x hx
    · rw [← hB y hy]; exact hG.pre.base y (by omega)
    · have hy' := prL_in.1 hy
      rw [← hI (livN A O N' (k + 1)) _ e he rfl]
      exact hG.pre.edge e y (by omega) (prL_in.2 ⟨by omega, by rw [hT y hy'.1]; exact hy'.2⟩)
theorem live_open {x : Nat} (hx : x < k) (h : opL a o n k x = true) : livN a o n k x = 31 := by
  have h1 := (livN_least a o n k).pre.base x hx
  have : bsN a o n k x = 31 := by unfold bsN; rw [h, show Nat.blt x k = true by rw [Nat.blt_eq]; exact hx]; rfl
  rw [this] at h1
  exact Sub.anti (sub31 ((livN_least a o n k).lt x)) h1
end
end Go.Proofs.Ytdjmpilegommlaa
namespace Go.Proofs.Ytdjmpilegommlaa
open Go Go.Ly Go.RowKit
def zM (ma mo mn : Int) : Nat := bif riN 1 (sh (aOf (moG ma mo mn))) (sh (oOf (moG ma mo mn))) then 1 else 0
def zX (ma mo mn : Int) : Int := bif riN 1 (sh (aOf (moG ma mo mn))) (sh (oOf (moG ma mo mn))) then 0 else 1
def zT (ma mo mn : Int) : Bool := Nat.ble (0 + 1) 1 && ((okN 1 (fun e x => ndG (aOf (moG ma mo mn)) (oOf (moG ma mo mn)) (nOf (moG ma mo mn)) (0 + e) x) && ((List.range 1).all fun e => inb (sh (oOf (moG ma mo mn)) e))) && Nat.ble 1 100)
def zTT (ma mo mn : Int) : List (Bool × Bool) := [(rowMo ma mo mn, true), (riMo ma mo mn, false), (zT ma mo mn, true), (Nat.beq (zM ma mo mn) 0, false), ((zX ma mo mn != 0) == false, true), (((zM ma mo mn : Nat) : Int) != 1, false)]
theorem k0_a (a o n : Nat → Int) (ma mo mn : Int) : (Ly.run cyX 9000 [(8, true), (2, false), (33, true), (0, false), (0, true), (6, false)] (e6S a o n 0 ma mo mn)).out? = some (zTT ma mo mn, .bool true) := by kernel_rfl
theorem k0_b (ma mo mn : Int) : (Ly.run cyX 9000 [(8, true), (2, false), (33, true), (0, false), (0, true), (6, false)] (Ly.start Try.f6 [.slice none 0 0, moV ma mo mn] (mkH []))).out? = some (zTT ma mo mn, .bool true) := by kernel_rfl
theorem k0_c (a o n : Nat → Int) (ma mo mn : Int) : (Ly.run cyX 9000 [(8, true), (2, true)] (e6S a o n 0 ma mo mn)).out? = some ([(rowMo ma mo mn, true), (riMo ma mo mn, true)], .bool true) := by kernel_rfl
theorem k0_d (ma mo mn : Int) : (Ly.run cyX 9000 [(8, true), (2, true)] (Ly.start Try.f6 [.slice none 0 0, moV ma mo mn] (mkH []))).out? = some ([(rowMo ma mo mn, true), (riMo ma mo mn, true)], .bool true) := by kernel_rfl
theorem riMo_eq (ma mo mn : Int) : riMo ma mo mn = (sizeT mo == 0) := by
  show (!(bif ((bif Nat.beq 0 0 then false else decide (aOf (moG ma mo mn) 0 ≤ aOf (moG ma mo mn) (0 - 1))) || sizeT mo == 0) then false else true)) = _
  rw [show Nat.beq 0 0 = true from rfl, cond_true, Bool.false_or]
  cases (sizeT mo == 0) <;> rfl
theorem rowMo_ok {ma mo mn : Int} (h : inb mo = true) : rowMo ma mo mn = true := by
  show (true && (okN 1 (moG ma mo mn) && (inb mo && true))) = true
  rw [h]; rfl
theorem zTT_ok {ma mo mn : Int} (h : inb mo = true) (hs : (sizeT mo == 0) = false) : trusted (zTT ma mo mn) := by
  have h1 : riMo ma mo mn = false := by rw [riMo_eq]; exact hs
  have h2 : riN 1 (sh (aOf (moG ma mo mn))) (sh (oOf (moG ma mo mn))) = true := by
    rw [sh_eq, sh_eq]
    have : (!riN 1 (aOf (moG ma mo mn)) (oOf (moG ma mo mn))) = false := h1
    simpa using this
  have h3 : zT ma mo mn = true := by
    show (Nat.ble (0 + 1) 1 && ((okN 1 (fun e x => ndG (aOf (moG ma mo mn)) (oOf (moG ma mo mn)) (nOf (moG ma mo mn)) (0 + e) x) && (inb mo && true)) && Nat.ble 1 100)) = true
    rw [h]; rfl
  have h4 : zM ma mo mn = 1 := by unfold zM; rw [h2]; rfl
  have h5 : zX ma mo mn = 0 := by unfold zX; rw [h2]; rfl
  simp [zTT, trusted, rowMo_ok h, h1, h3, h4, h5]
  rfl
theorem k6g : cyX.fn.get 6 = some Try.f6 := by kernel_rfl
theorem e6_P (a o n : Nat → Int) (k : Nat) (ma mo mn : Int) (l : List ((Nat → Int) × Nat)) : ∀ y ∈ some (ndL a o n k) :: some (moL ma mo mn) :: l.map (fun q => some (inL q.1 q.2)), ∀ z, y = some z → plainO z := by
  intro y hy z hz
  rcases List.mem_cons.1 hy with rfl | hy
  · simp only [Option.some.injEq] at hz; subst hz; exact plain_ndL _ _ _ _
  rcases List.mem_cons.1 hy with rfl | hy
  · simp only [Option.some.injEq] at hz; subst hz; exact trivial
  · obtain ⟨q, _, rfl⟩ := List.mem_map.1 hy
    simp only [Option.some.injEq] at hz; subst hz
    intro e j; simp [noBlk, blks]
theorem e6_P3 (a o n : Nat → Int) (k : Nat) (l : List ((Nat → Int) × Nat)) : ∀ y ∈ some (ndL a o n k) :: l.map (fun q => some (inL q.1 q.2)), ∀ z, y = some z → plainO z := by
  intro y hy z hz
  rcases List.mem_cons.1 hy with rfl | hy
  · simp only [Option.some.injEq] at hz; subst hz; exact plain_ndL _ _ _ _
  · obtain ⟨q, _, rfl⟩ := List.mem_map.1 hy
    simp only [Option.some.injEq] at hz; subst hz
    intro e j; simp [noBlk, blks]
def isT (v : Value) (_ : Heap) : Prop := v = .bool true
section
variable {a o n : Nat → Int} {k : Nat} {ma mo mn : Int}
theorem e6_3 {g g2 : Nat → Nat} (hk : k ≤ 100) (he : ∀ x, x < k → g2 x = g x) : ∀ (d i : Nat), i + d = k → MWp Try.prog (mkSt Try.f6 e6K3 none 1 (e6V3b k k (k + 1) i) [some (ndL a o n k), some (inL (castF g) k), some (inL (castF g2) (k + 1))]) isT
  | 0, i, hd => by
    obtain rfl : i = k := by omega
    exact MWp.out cyX_ok 9000 _ (k6_z7 a o n (castF g) (castF g2) i i (i + 1) 0 0 0 i) (by simp only [trusted, show decide ((i : Int) < (i : Nat)) = false by rw [decide_eq_false_iff_not]; omega, and_self]) (fun _ => rfl)
  | d + 1, i, hd => by
    have hi : i < k := by omega
    obtain ⟨i1, i2, i3, i4⟩ := ix_tests hi
    obtain ⟨j1, j2, j3, j4⟩ := ix_tests (show i < k + 1 by omega)
    have i5 : Nat.blt (0 + ((i : Int)).toNat * 1) k = true := by rw [Nat.blt_eq]; omega
    have j5 : Nat.blt (0 + ((i : Int)).toNat * 1) (k + 1) = true := by rw [Nat.blt_eq]; omega
    have hjw : jW (i : Int) = ((i + 1 : Nat) : Int) := by unfold jW; rw [IntKind.wrap_i64]; omega
    have hg : (gA (castF g2) (i : Int) != gA (castF g) i) = false := by rw [gA_at, gA_at]; simp [castF, he i hi]
    refine MWp.head cyX_ok _ _ _ _ (k6_5 a o n (castF g) (castF g2) k k (k + 1) 0 0 0 i) (by simp only [trusted, i1, i2, i5, j2, j5, hg, and_self]) (e6_P3 a o n k [(castF g, k), (castF g2, k + 1)]) ?_
    rw [hjw]
    exact e6_3 hk he d (i + 1) (by omega)
theorem eN2_eq (a o n : Nat → Int) (k : Nat) (ma mo mn : Int) (i : Int) : eN2 a o n k ma mo mn i = nxF (k + 1) (eA a o n k ma mo mn) (eO a o n k ma mo mn) (eN a o n k ma mo mn) i := by
  unfold eN2 lsN; rw [sh_eq, sh_eq, sh_eq, sh_eq, sh_eq, sh_eq, xK_eq]
theorem eP1_eq (a o n : Nat → Int) (k i : Nat) : eP1 a o n k i = opL a o n k i := by unfold eP1; rw [lsN_eq]; rfl
structure Ex (a o n : Nat → Int) (k : Nat) (ma mo mn : Int) : Prop where
  le : k ≤ 40
  pos : k ≠ 0
  op : ∀ e, e < k → inb (o e) = true
  mo : inb mo = true
theorem Ex.eO (h : Ex a o n k ma mo mn) : ∀ e, e < k + 1 → inb (eO a o n k ma mo mn e) = true := by
  intro e he
  by_cases h1 : e < k
  · rw [eO_lt _ _ _ _ _ _ _ h1]; exact h.op e h1
  · obtain rfl : e = k := by omega
    rw [eO_k]; exact h.mo
theorem Ex.b0 (h : Ex a o n k ma mo mn) : Nat.beq k 0 = false := Bool.eq_false_iff.2 fun h' => h.pos (Nat.eq_of_beq_eq_true h')
theorem Ex.app (h : Ex a o n k ma mo mn) : eT6 k = true ∧ Nat.ble (0 + k) 0 = false ∧ Nat.ble 1 (0 + k) = true ∧ eT9 k = true ∧ eT10 a o n k ma mo mn = true ∧ eT12 a o n k ma mo mn = true ∧ eT11 a o n k ma mo mn = true := by
  have hp := h.pos
  have hl := h.le
  have t : ∀ {x y : Nat}, x ≤ y → Nat.ble x y = true := fun q => Nat.ble_eq_true_of_le q
  refine ⟨?_, ?_, t (by omega), ?_, eT10_ok _ _ _ _ _ _ _ (by omega), ?_, ?_⟩
  · unfold eT6; rw [t (show 0 + k ≤ k by omega), t (show 0 + k ≤ 4294967296 by omega)]; rfl
  · exact Bool.eq_false_iff.2 fun q => by have := Nat.le_of_ble_eq_true q; omega
  · unfold eT9; rw [t (show 0 + (0 + k) ≤ k by omega), t (show 1 ≤ 0 + k by omega), t (show 0 + k + 1 ≤ 4294967296 by omega), show Nat.beq k (0 + k) = true by rw [Nat.zero_add]; exact Nat.beq_refl k]; rfl
  · unfold eT12; rw [xK_eq]; exact rowTn_ok (by omega) h.eO
  · unfold eT11 lsT1; rw [xK_eq, sh_eq, sh_eq, sh_eq, sh_eq, ndG_0, okN_nd _ _ _ (by omega), List.all_eq_true.2 (fun e he => h.eO e (List.mem_range.1 he)), t (show k + 1 ≤ 100 by omega), t (show 0 + (k + 1) ≤ k + 1 by omega)]; rfl
theorem NoK_of {l : List Int} (h : (eLast l == (k : Int)) = false) : NoK k l := .inr (by simpa using h)
theorem e6_2 (hX : Ex a o n k ma mo mn) {g g2 : Nat → Nat} (hend : (∀ e, e < k → nxF (k + 1) (eA a o n k ma mo mn) (eO a o n k ma mo mn) (eN a o n k ma mo mn) e = nxF k a o n e) → MWp Try.prog (mkSt Try.f6 e6K3 none 1 (e6V3b k k (k + 1) 0) [some (ndL a o n k), some (inL (castF g) k), some (inL (castF g2) (k + 1))]) isT) :
    ∀ (d i : Nat), i + d = k → (∀ e, e < i → nxF (k + 1) (eA a o n k ma mo mn) (eO a o n k ma mo mn) (eN a o n k ma mo mn) e = nxF k a o n e) → MWp Try.prog (mkSt Try.f6 e6K2 none 1 (e6V2 k k (k + 1) i) (e6O2 a o n k ma mo mn (castF g) k (castF g2) (k + 1))) isT
  | 0, i, hd, hs => by
    obtain rfl : i = k := by omega
    refine MWp.head cyX_ok _ _ _ _ (k6_4 a o n (castF g) (castF g2) i i (i + 1) ma mo mn i) (by simp only [trusted, show decide ((i : Int) < (i : Nat)) = false by rw [decide_eq_false_iff_not]; omega, and_self]) (e6_P3 a o n i [(castF g, i), (castF g2, i + 1)]) (hend hs)
  | d + 1, i, hd, hs => by
    have hi : i < k := by omega
    have hk40 := hX.le
    obtain ⟨i1, i2, i3, i4⟩ := ix_tests hi
    have hjw : jW (i : Int) = ((i + 1 : Nat) : Int) := by unfold jW; rw [IntKind.wrap_i64]; omega
    obtain ⟨t6, t7, t8, t9, t10, t12, _⟩ := hX.app
    have hk := hX.le
    have r1 : rowT a o n k = true := rowT_ok (by omega)
    have r2 : rowTn a o n k = true := rowTn_ok (by omega) hX.op
    have b0 := hX.b0
    have next : NoK k (eN2 a o n k ma mo mn i).1 → MWp Try.prog (mkSt Try.f6 e6K2 none 1 (e6V2 k k (k + 1) (jW i)) (e6O2 a o n k ma mo mn (castF g) k (castF g2) (k + 1))) isT := by
      intro hno
      rw [hjw]
      refine e6_2 hX hend d (i + 1) (by omega) (fun e he => ?_)
      by_cases h : e < i
      · exact hs e h
      · obtain rfl : e = i := by omega
        rw [eN2_eq] at hno
        exact nx_ext (fun e he => eA_lt _ _ _ _ _ _ _ he) (fun e he => eO_lt _ _ _ _ _ _ _ he) (fun e he => eN_lt _ _ _ _ _ _ _ he) hi hno
    have P := e6_P a o n k ma mo mn [(castF g, k), (castF g2, k + 1)]
    cases hq : (((eN2 a o n k ma mo mn i).2 != eP1 a o n k i) == false) with
    | false =>
      cases hx : Nat.beq (eN2 a o n k ma mo mn i).1.length 0 with
      | true =>
        cases hy : Nat.beq (eL1 a o n k i) 0 with
        | true => exact MWp.out cyX_ok 9000 _ (k6_z5tt a o n (castF g) (castF g2) k k (k + 1) ma mo mn i) (by simp only [trusted, i1, t6, t7, t8, t9, t10, t12, r1, r2, b0, hq, hx, hy, and_self]) (fun _ => rfl)
        | false => exact MWp.out cyX_ok 9000 _ (k6_z5tf a o n (castF g) (castF g2) k k (k + 1) ma mo mn i) (by simp only [trusted, i1, t6, t7, t8, t9, t10, t12, r1, r2, b0, hq, hx, hy, and_self]) (fun _ => rfl)
      | false =>
        cases hy : Nat.beq (eL1 a o n k i) 0 with
        | true => exact MWp.out cyX_ok 9000 _ (k6_z5ft a o n (castF g) (castF g2) k k (k + 1) ma mo mn i) (by simp only [trusted, i1, t6, t7, t8, t9, t10, t12, r1, r2, b0, hq, hx, hy, and_self]) (fun _ => rfl)
        | false => exact MWp.out cyX_ok 9000 _ (k6_z5ff a o n (castF g) (castF g2) k k (k + 1) ma mo mn i) (by simp only [trusted, i1, t6, t7, t8, t9, t10, t12, r1, r2, b0, hq, hx, hy, and_self]) (fun _ => rfl)
    | true =>
      cases hx : Nat.beq (eN2 a o n k ma mo mn i).1.length 0 with
      | true =>
        have hno : NoK k (eN2 a o n k ma mo mn i).1 := .inl (List.eq_nil_of_length_eq_zero (Nat.eq_of_beq_eq_true hx))
        cases hy : Nat.beq (eL1 a o n k i) 0 with
        | true => exact MWp.head cyX_ok _ _ _ _ (k6_3tt a o n (castF g) (castF g2) k k (k + 1) ma mo mn i) (by simp only [trusted, i1, t6, t7, t8, t9, t10, t12, r1, r2, b0, hq, hx, hy, and_self]) P (next hno)
        | false => exact MWp.head cyX_ok _ _ _ _ (k6_3tf a o n (castF g) (castF g2) k k (k + 1) ma mo mn i) (by simp only [trusted, i1, t6, t7, t8, t9, t10, t12, r1, r2, b0, hq, hx, hy, and_self]) P (next hno)
      | false =>
        have hl0 : (eN2 a o n k ma mo mn i).1.length ≠ 0 := fun h => by rw [h] at hx; cases hx
        have hl2 : (eN2 a o n k ma mo mn i).1.length ≤ 2 := by
          have := toL_two (eA a o n k ma mo mn) (eO a o n k ma mo mn) (eN a o n k ma mo mn) (k + 1) i
          rw [toL_len] at this
          unfold nxM nxS at this
          rw [sh_eq, sh_eq, sh_eq] at this
          rw [eN2_eq]; exact this
        have u1 : (decide ((0 : Int) < ((eN2 a o n k ma mo mn i).1.length : Nat)) == true) = true := by simp; omega
        have wl : laX6 (eN2 a o n k ma mo mn i).1.length = (((eN2 a o n k ma mo mn i).1.length - 1 : Nat) : Int) := by unfold laX6; rw [IntKind.wrap_i64]; omega
        obtain ⟨_, w2, _, _⟩ := ix_tests (show (eN2 a o n k ma mo mn i).1.length - 1 < (eN2 a o n k ma mo mn i).1.length by omega)
        have u2 : ixB (eN2 a o n k ma mo mn i).1.length (laX6 (eN2 a o n k ma mo mn i).1.length) = true := by rw [wl]; exact w2
        have u3 : Nat.blt (0 + (laX6 (eN2 a o n k ma mo mn i).1.length).toNat * 1) (eN2 a o n k ma mo mn i).1.length = true := by rw [wl, Nat.blt_eq]; omega
        cases hz : (eLast (eN2 a o n k ma mo mn i).1 == (k : Int)) with
        | true =>
          cases hy : Nat.beq (eL1 a o n k i) 0 with
          | true => exact MWp.out cyX_ok 9000 _ (k6_z6t a o n (castF g) (castF g2) k k (k + 1) ma mo mn i) (by simp only [trusted, i1, t6, t7, t8, t9, t10, t12, r1, r2, b0, hq, hx, hy, hz, u1, u2, u3, and_self]) (fun _ => rfl)
          | false => exact MWp.out cyX_ok 9000 _ (k6_z6f a o n (castF g) (castF g2) k k (k + 1) ma mo mn i) (by simp only [trusted, i1, t6, t7, t8, t9, t10, t12, r1, r2, b0, hq, hx, hy, hz, u1, u2, u3, and_self]) (fun _ => rfl)
        | false =>
          cases hy : Nat.beq (eL1 a o n k i) 0 with
          | true => exact MWp.head cyX_ok _ _ _ _ (k6_3ft a o n (castF g) (castF g2) k k (k + 1) ma mo mn i) (by simp only [trusted, i1, t6, t7, t8, t9, t10, t12, r1, r2, b0, hq, hx, hy, hz, u1, u2, u3, and_self]) P (next (NoK_of hz))
          | false => exact MWp.head cyX_ok _ _ _ _ (k6_3ff a o n (castF g) (castF g2) k k (k + 1) ma mo mn i) (by simp only [trusted, i1, t6, t7, t8, t9, t10, t12, r1, r2, b0, hq, hx, hy, hz, u1, u2, u3, and_self]) P (next (NoK_of hz))
theorem e6_1 (hX : Ex a o n k ma mo mn) (hend : MWp Try.prog (mkSt Try.f6 e6K1 none 1 (e6V1 k k k) (e6O a o n k ma mo mn (castF (livN a o n k)) k)) isT) : ∀ (d i : Nat), i + d = k →
    MWp Try.prog (mkSt Try.f6 e6K1 none 1 (e6V1 k k i) (e6O a o n k ma mo mn (castF (livN a o n k)) k)) isT
  | 0, i, hd => by
    obtain rfl : i = k := by omega
    exact hend
  | d + 1, i, hd => by
    have hi : i < k := by omega
    obtain ⟨i1, i2, i3, i4⟩ := ix_tests hi
    have i5 : Nat.blt (0 + ((i : Int)).toNat * 1) k = true := by rw [Nat.blt_eq]; omega
    have hk := hX.le
    have hjw : jW (i : Int) = ((i + 1 : Nat) : Int) := by unfold jW; rw [IntKind.wrap_i64]; omega
    have r1 : rowT a o n k = true := rowT_ok (by omega)
    have r2 : rowTn a o n k = true := rowTn_ok (by omega) hX.op
    have b0 := hX.b0
    have next : MWp Try.prog (mkSt Try.f6 e6K1 none 1 (e6V1 k k (jW i)) (e6O a o n k ma mo mn (castF (livN a o n k)) k)) isT := by rw [hjw]; exact e6_1 hX hend d (i + 1) (by omega)
    have hl := (livN_least a o n k).lt i
    have v0 : decide (gA (castF (livN a o n k)) (i : Int) < 0) = false := by rw [gA_at, decide_eq_false_iff_not]; show ¬ (((livN a o n k i : Nat) : Int) < 0); omega
    have v1 : (decide (gA (castF (livN a o n k)) (i : Int) < 0) == false) = true := by rw [v0]; rfl
    have v2 : decide (31 < gA (castF (livN a o n k)) (i : Int)) = false := by rw [gA_at, decide_eq_false_iff_not]; show ¬ (31 < ((livN a o n k i : Nat) : Int)); omega
    have P := e6_P a o n k ma mo mn [(castF (livN a o n k), k)]
    cases hp : opL a o n k i with
    | true =>
      have p1 : (eP1 a o n k i == true) = true := by rw [eP1_eq, hp]; rfl
      have v3 : (gA (castF (livN a o n k)) (i : Int) != 31) = false := by rw [gA_at]; simp [castF, live_open hi hp]
      cases hy : Nat.beq (eL1 a o n k i) 0 with
      | true => exact MWp.head cyX_ok _ _ _ _ (k6_1tt a o n (castF (livN a o n k)) zF k k 0 ma mo mn i) (by simp only [trusted, i1, i2, i5, r1, r2, b0, hy, p1, v1, v2, v3, and_self]) P next
      | false => exact MWp.head cyX_ok _ _ _ _ (k6_1ft a o n (castF (livN a o n k)) zF k k 0 ma mo mn i) (by simp only [trusted, i1, i2, i5, r1, r2, b0, hy, p1, v1, v2, v3, and_self]) P next
    | false =>
      have p1 : (eP1 a o n k i == true) = false := by rw [eP1_eq, hp]; rfl
      cases hy : Nat.beq (eL1 a o n k i) 0 with
      | true => exact MWp.head cyX_ok _ _ _ _ (k6_1tf a o n (castF (livN a o n k)) zF k k 0 ma mo mn i) (by simp only [trusted, i1, i2, i5, r1, r2, b0, hy, p1, v1, v2, and_self]) P next
      | false => exact MWp.head cyX_ok _ _ _ _ (k6_1ff a o n (castF (livN a o n k)) zF k k 0 ma mo mn i) (by simp only [trusted, i1, i2, i5, r1, r2, b0, hy, p1, v1, v2, and_self]) P next
theorem e6_mid (hX : Ex a o n k ma mo mn) (hR : riN k a o = true) (hs : (sizeT mo == 0) = false) : MWp Try.prog (mkSt Try.f6 e6K1 none 1 (e6V1 k k k) (e6O a o n k ma mo mn (castF (livN a o n k)) k)) isT := by
  have hk := hX.le
  have hp := hX.pos
  have w6 : soW6 k = ((k - 1 : Nat) : Int) := by unfold soW6; rw [IntKind.wrap_i64]; omega
  obtain ⟨_, j2, j3, j4⟩ := ix_tests (show k - 1 < k by omega)
  have u0 : decide ((k : Int) < (k : Nat)) = false := by rw [decide_eq_false_iff_not]; omega
  have u1 : (decide ((0 : Int) < (k : Nat)) == true) = true := by simp; omega
  have u2 : ixB k (soW6 k) = true := by rw [w6]; exact j2
  have u3 : Nat.blt (0 + (soW6 k).toNat) k = true := by rw [w6, j3]; exact j4
  have u4 : a (0 + (soW6 k).toNat) = a (k - 1) := by rw [w6, j3]
  cases hl : decide (ma ≤ a (k - 1)) with
  | true => exact MWp.out cyX_ok 9000 _ (k6_z4 a o n (castF (livN a o n k)) zF k k 0 ma mo mn k) (by simp only [trusted, u0, u1, u2, u3, u4, hl, and_self]) (fun _ => rfl)
  | false =>
    have hlt : a (k - 1) < ma := by have := of_decide_eq_false hl; omega
    obtain ⟨t6, t7, t8, t9, t10, t12, t11⟩ := hX.app
    have hR2 : lsR (eA a o n k ma mo mn) (eO a o n k ma mo mn) (xK k) = true := by unfold lsR; rw [sh_eq, sh_eq, sh_eq, sh_eq]; exact riN_more (n := n) (mn := mn) hR hs (.inr hlt)
    have eM' : eM a o n k ma mo mn = k + 1 := by unfold eM lsM; rw [hR2, xK_eq]; rfl
    have eX' : (eX a o n k ma mo mn != 0) = false := by unfold eX lsX; rw [hR2]; rfl
    have eG' : eG a o n k ma mo mn = castF (livN (eA a o n k ma mo mn) (eO a o n k ma mo mn) (eN a o n k ma mo mn) (k + 1)) := by unfold eG lsG livG; rw [sh_eq, sh_eq, sh_eq, sh_eq, sh_eq, sh_eq, xK_eq]
    have u5 : Nat.beq (k + 1) 0 = false := rfl
    have u6 : (((k + 1 : Nat) : Int) != IntKind.i64.wrap ((k : Int) + 1)) = false := by
      have : IntKind.i64.wrap ((k : Int) + 1) = ((k + 1 : Nat) : Int) := by rw [IntKind.wrap_i64]; omega
      rw [this]; simp
    refine MWp.head cyX_ok _ _ _ _ (k6_2 a o n (castF (livN a o n k)) zF k k 0 ma mo mn k) ?_ (e6_P a o n k ma mo mn [(castF (livN a o n k), k), (eG a o n k ma mo mn, eM a o n k ma mo mn)]) ?_
    · have e2 : ((eX a o n k ma mo mn != 0) == false) = true := by rw [eX']; rfl
      simp only [trusted, u0, u1, u2, u3, u4, hl, t6, t7, t8, t9, t10, t11, eM', e2, u5, u6, and_self]
    · rw [eM', eG']
      refine e6_2 hX (fun hto => ?_) k 0 (by omega) (fun e he => by omega)
      exact e6_3 (by omega) (fun x hx => live_ext hto (fun e he => eO_lt _ _ _ _ _ _ _ he) hx) k 0 (by omega)
end
theorem ends_calls (a o n : Nat → Int) (k : Nat) (ma mo mn : Int) (ho : ∀ e, e < k → inb (o e) = true) (hmo : inb mo = true) : LCalls Try.prog 6 [sls 0 k, moV ma mo mn] (mkH [some (ndL a o n k)]) (fun u _ => u = .bool true) := by
  refine LCalls_of cyX_ok k6g (by kernel_rfl) ?_
  show MWp Try.prog (e6S a o n k ma mo mn) isT
  by_cases hk0 : k = 0
  · subst hk0
    cases hs : (sizeT mo == 0) with
    | true => exact MWp.out cyX_ok 9000 _ (k0_c a o n ma mo mn) (by simp only [trusted, rowMo_ok hmo, riMo_eq, hs, and_self]) (fun _ => rfl)
    | false => exact MWp.out cyX_ok 9000 _ (k0_a a o n ma mo mn) (zTT_ok hmo hs) (fun _ => rfl)
  by_cases h40 : (40 : Int) < k
  · exact MWp.out cyX_ok 9000 _ (k6_z1 a o n zF zF k 0 0 ma mo mn 0) (by simp [trusted, h40]) (fun _ => rfl)
  have hk : k ≤ 40 := by omega
  have hX : Ex a o n k ma mo mn := ⟨hk, hk0, ho, hmo⟩
  have c40 : (decide ((40 : Int) < k) == false) = true := by rw [decide_eq_false h40]; rfl
  have r4 : rowTr a o n k = true := by
    unfold rowTr; rw [sh_eq, ndG_0, okN_nd _ _ _ (by omega), List.all_eq_true.2 (fun e he => ho e (List.mem_range.1 he))]; simp
  have eL : riL a o k = !riN k a o := by unfold riL; rw [sh_eq, sh_eq]
  have eR : lsR a o k = riN k a o := by unfold lsR; rw [sh_eq, sh_eq, sh_eq, sh_eq]
  cases hR : riN k a o with
  | false =>
    have l1 : (riL a o k == false) = false := by rw [eL, hR]; rfl
    exact MWp.out cyX_ok 9000 _ (k6_z2 a o n zF zF k 0 0 ma mo mn 0) (by simp only [trusted, c40, r4, l1, and_self]) (fun _ => rfl)
  | true =>
    have l1 : (riL a o k == false) = true := by rw [eL, hR]; rfl
    cases hs : (sizeT mo == 0) with
    | true => exact MWp.out cyX_ok 9000 _ (k6_z3 a o n zF zF k 0 0 ma mo mn 0) (by simp only [trusted, c40, r4, l1, rowMo_ok hmo, riMo_eq, hs, and_self]) (fun _ => rfl)
    | false =>
      have r1 : rowT a o n k = true := rowT_ok (by omega)
      have r3 : lsT1 a o n k = true := by
        unfold lsT1; rw [sh_eq, sh_eq, sh_eq, sh_eq, ndG_0, okN_nd _ _ _ (by omega), List.all_eq_true.2 (fun e he => ho e (List.mem_range.1 he)), show Nat.ble k 100 = true from Nat.ble_eq_true_of_le (by omega)]; simp
      have eM1 : lsM a o k = k := by unfold lsM; rw [eR, hR]; rfl
      have eX1 : ((lsX a o k != 0) == false) = true := by unfold lsX; rw [eR, hR]; rfl
      have eG1 : lsG a o n k = castF (livN a o n k) := by unfold lsG livG; rw [sh_eq, sh_eq, sh_eq, sh_eq, sh_eq, sh_eq]
      refine MWp.head cyX_ok _ _ _ _ (k6_0 a o n zF zF k 0 0 ma mo mn 0) ?_ (e6_P a o n k ma mo mn [(lsG a o n k, lsM a o k)]) ?_
      · simp only [trusted, c40, r4, l1, rowMo_ok hmo, riMo_eq, hs, r1, hX.b0, r3, eM1, eX1, bne_self_eq_false, and_self]
      · rw [eM1, eG1]
        exact e6_1 hX (e6_mid hX hR hs) k 0 (by omega)
theorem ends_nil (ma mo mn : Int) (hmo : inb mo = true) : LCalls Try.prog 6 [.slice none 0 0, moV ma mo mn] (mkH []) (fun u _ => u = .bool true) := by
  refine LCalls_of cyX_ok k6g (by kernel_rfl) ?_
  cases hs : (sizeT mo == 0) with
  | true => exact MWp.out cyX_ok 9000 _ (k0_d ma mo mn) (by simp only [trusted, rowMo_ok hmo, riMo_eq, hs, and_self]) (fun _ => rfl)
  | false => exact MWp.out cyX_ok 9000 _ (k0_b ma mo mn) (zTT_ok hmo hs) (fun _ => rfl)
theorem ends_walk (W : World) (v0 v1 : Value) (h0 : CkOk W (.slice [.int .u16, .int .u8, .int .u16]) v0) (h1 : ∃ cs, v1 = .agg ⟨cs⟩ ∧ CksOk W [.int .u16, .int .u8, .int .u16] cs) : Calls Try.prog 6 #[v0, v1] W fun e W' => e = .returned (.bool true) ∧ Below W.heap.size W W' := by
  obtain ⟨cs, rfl, h1⟩ := h1
  simp only [CksOk, CkOk] at h1
  obtain ⟨_, _, rfl, ⟨ma, rfl, k0⟩, _, _, rfl, ⟨mo, rfl, k1⟩, _, _, rfl, ⟨mn, rfl, k2⟩, rfl⟩ := h1
  have hb := bounds_u8 k1
  have hmo : inb mo = true := by simp [inb]; omega
  rcases ck_node h0 with rfl | ⟨k, a, o, n, pl, hr, hb⟩
  · exact calls_ro (ρ := rowsRen []) (ends_nil ma mo mn hmo) rfl (by simp [moV, VRL, VR]) (rows_rep (rs := []) rfl (by simp) (by simp) (by simp)) (fun _ => rfl)
  · exact calls_ro (ρ := rowsRenW [pl] (fun _ => 3)) (ends_calls a o n k ma mo mn hb hmo) rfl
      (by simp only [moV, VRL]; exact ⟨v0, _, VR_sls (slW_VR hr (by simp)), ⟨_, _, by simp [VR, VRL], rfl, rfl⟩, rfl⟩)
      (rowsW_rep (l := [pl]) (rs := [(3, ndG a o n, k)]) rfl (by simp) (by
        intro j q hq
        rcases j with _ | j
        · simp at hq; exact hr.low q hq
        · simp at hq) (by
        intro j k2 g2 n2 h0
        rcases j with _ | j
        · simp at h0; obtain ⟨rfl, rfl, rfl⟩ := h0
          refine ⟨rfl, fun e j he hj => ⟨hr.one e j he hj, ?_⟩⟩
          obtain ⟨q, h3, h4⟩ := hr.cell e j he hj
          exact ⟨q, by simp [h3], h4⟩
        · simp at h0)) (fun _ => rfl)
end Go.Proofs.Ytdjmpilegommlaa
end
