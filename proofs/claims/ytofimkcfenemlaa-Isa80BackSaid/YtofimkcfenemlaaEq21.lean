/- Two rows of bytes held against each other: what function 21 (pidginref02.Bytes) answers. -/
import Derived.Test.YtofimkcfenemlaaCy
import Derived.Test.YtofimkcfenemlaaLyT
import Derived.KernelRfl
import Derived.Laws.BitsLemmas
namespace Go.Proofs.Ytofimkcfenemlaa
open Go Go.Ly Go.RowKit
set_option linter.unusedVariables false
set_option linter.unusedSimpArgs false
noncomputable def eq21H (n m : Nat) (f g : Nat → Int) : List (Option LO) := [some (ints .u8 f n), some (ints .u8 g m)]
noncomputable def eq21D : St := Ly.start Try.f21 [] H0
noncomputable def eq21K : List KI := ((Ly.run env.bare 22 [] (Ly.start Try.f21 [sl 0 0, sl 1 0] (mkH (eq21H 0 0 (fun _ => 0) (fun _ => 0))))).st eq21D).top.k
noncomputable def eq21V (n m : Nat) (i : Int) : List Value := slots 26 [(0, sl 0 n), (1, sl 1 m), (5, .int .i64 i)]
theorem eq21get : env.bare.fn.get 21 = some Try.f21 := by kernel_rfl
theorem eq210 (n m : Nat) (f g : Nat → Int) : headAt [0, 1, 5] [0, 1] eq21D (Ly.run env.bare 22 [(0, false)] (Ly.start Try.f21 [sl 0 n, sl 1 m] (mkH (eq21H n m f g)))) =
    (true, [((n : Int) != (m : Int), false)], true, (Try.f21, eq21K, none, 2), eq21V n m 0, eq21H n m f g) := by kernel_rfl
theorem eq21N (n m : Nat) (f g : Nat → Int) : (Ly.run env.bare 200 [(0, true)] (Ly.start Try.f21 [sl 0 n, sl 1 m] (mkH (eq21H n m f g)))).end? =
    some ([((n : Int) != (m : Int), true)], .bool false, mkH (eq21H n m f g)) := by kernel_rfl
theorem eq21I (n m : Nat) (f g : Nat → Int) (i : Int) : headAt [0, 1, 5] [0, 1] eq21D (Ly.run env.bare 34 [(0, true), (0, true), (0, true), (0, true), (0, true), (0, false)] (mkSt Try.f21 eq21K none 2 (eq21V n m i) (eq21H n m f g))) =
    (true, [(decide (i < (n : Int)), true), (decide (0 ≤ i) && decide (i < (n : Int)), true), (Nat.blt (0 + i.toNat * 1) n, true), (decide (0 ≤ i) && decide (i < (m : Int)), true), (Nat.blt (0 + i.toNat * 1) m, true), (f (0 + i.toNat * 1) != g (0 + i.toNat * 1), false)],
      true, (Try.f21, eq21K, none, 2), eq21V n m (IntKind.i64.wrap (i + 1)), eq21H n m f g) := by kernel_rfl
theorem eq21T (n m : Nat) (f g : Nat → Int) (i : Int) : (Ly.run env.bare 200 [(0, false)] (mkSt Try.f21 eq21K none 2 (eq21V n m i) (eq21H n m f g))).out? = some ([(decide (i < (n : Int)), false)], .bool true) := by kernel_rfl
theorem eq21E (n m : Nat) (f g : Nat → Int) (i : Int) : (Ly.run env.bare 200 [(0, true), (0, true), (0, true), (0, true), (0, true), (0, true)] (mkSt Try.f21 eq21K none 2 (eq21V n m i) (eq21H n m f g))).out? =
    some ([(decide (i < (n : Int)), true), (decide (0 ≤ i) && decide (i < (n : Int)), true), (Nat.blt (0 + i.toNat * 1) n, true), (decide (0 ≤ i) && decide (i < (m : Int)), true), (Nat.blt (0 + i.toNat * 1) m, true), (f (0 + i.toNat * 1) != g (0 + i.toNat * 1), true)], .bool false) := by kernel_rfl
theorem eq21P (n m : Nat) (f g : Nat → Int) : ∀ o ∈ eq21H n m f g, ∀ x, o = some x → plainO x := by
  intro o ho x hx
  simp only [eq21H, List.mem_cons, List.not_mem_nil, or_false] at ho
  rcases ho with rfl | rfl <;> (simp only [Option.some.injEq] at hx; subst hx; exact plain_ints)
theorem eq21loop (n : Nat) (f g : Nat → Int) (hn : n ≤ 9223372036854775807) : ∀ (d : Nat) (i : Int), 0 ≤ i → i ≤ n → ((n : Int) - i).toNat = d → (∀ e : Nat, (e : Int) < i → f e = g e) →
    MWp Try.prog (mkSt Try.f21 eq21K none 2 (eq21V n n i) (eq21H n n f g)) (fun v _ => v = .bool (eqU n f g))
  | 0, i, h0, h1, hd, he => by
    have hi : i = n := by omega
    refine MWp.out (Env.bare_ok envOk) 200 _ (eq21T n n f g i) (by simp [trusted]; omega) ?_
    intro _; rw [eqU_true (fun e h => he e (by omega))]
  | d + 1, i, h0, h1, hd, he => by
    have hi : i < n := by omega
    have ht : 0 + i.toNat * 1 = i.toNat := by omega
    have hlt : Nat.blt i.toNat n = true := by rw [Nat.blt_eq]; omega
    by_cases hf : f i.toNat = g i.toNat
    · refine MWp.head (Env.bare_ok envOk) _ _ _ _ (eq21I n n f g i) (by rw [ht]; simp [trusted, hf, hlt, hi, h0]) (eq21P n n f g) ?_
      have hw : IntKind.i64.wrap (i + 1) = i + 1 := by rw [IntKind.wrap_i64]; omega
      rw [hw]
      refine eq21loop n f g hn d (i + 1) (by omega) (by omega) (by omega) (fun e h => ?_)
      by_cases h2 : (e : Int) = i
      · have : e = i.toNat := by omega
        rw [this]; exact hf
      · exact he e (by omega)
    · refine MWp.out (Env.bare_ok envOk) 200 _ (eq21E n n f g i) (by rw [ht]; simp [trusted, hf, hlt, hi, h0]) ?_
      intro _; rw [eqU_false (e := i.toNat) (by omega) hf]
theorem eq21SS (n m : Nat) (f g : Nat → Int) (hn : n ≤ 9223372036854775807) : LCalls Try.prog 21 [sl 0 n, sl 1 m] (mkH [some (ints .u8 f n), some (ints .u8 g m)]) (fun u _ => u = .bool (Nat.beq n m && eqU n f g)) := by
  refine LCalls_of (Env.bare_ok envOk) eq21get (by kernel_rfl) ?_
  by_cases h : n = m
  · subst h
    refine MWp.head (Env.bare_ok envOk) _ _ _ _ (eq210 n n f g) (by simp [trusted]) (eq21P n n f g) ?_
    refine (eq21loop n f g hn _ 0 (by omega) (by omega) rfl (fun e h => by omega)).mono ?_
    rintro v H rfl
    simp
  · refine MWp.done (Env.bare_ok envOk) 200 _ (eq21N n m f g) (by simp [trusted]; omega) ?_
    have : Nat.beq n m = false := by
      cases hb : Nat.beq n m with
      | false => rfl
      | true => exact absurd (Nat.eq_of_beq_eq_true hb) h
    rw [this]; rfl
theorem eq21a (m : Nat) (q : Nat → Int) (b : Bool) : (Ly.run env.bare 200 [(0, b)] (Ly.start Try.f21 [.slice none 0 0, sl 0 m] (mkH [some (ints .u8 q m)]))).out? = some ([((0 : Int) != (m : Int), b)], .bool (!b)) := by cases b <;> kernel_rfl
theorem eq21NS (m : Nat) (q : Nat → Int) : LCalls Try.prog 21 [.slice none 0 0, sl 0 m] (mkH [some (ints .u8 q m)]) (fun u _ => u = .bool (Nat.beq 0 m)) := by
  by_cases h : m = 0
  · subst h
    exact LCalls_trust (Env.bare_ok envOk) 200 _ eq21get (by kernel_rfl) (eq21a 0 q false) (by simp [trusted])
  · have hb : Nat.beq 0 m = false := by rcases m with _ | m; exact absurd rfl h; rfl
    rw [hb]
    exact LCalls_trust (Env.bare_ok envOk) 200 _ eq21get (by kernel_rfl) (eq21a m q true) (by simp [trusted]; omega)
theorem eq21b (n : Nat) (q : Nat → Int) : (Ly.run env.bare 200 [(0, true)] (Ly.start Try.f21 [sl 0 n, .slice none 0 0] (mkH [some (ints .u8 q n)]))).out? = some ([((n : Int) != 0, true)], .bool false) := by kernel_rfl
theorem eq21c (q : Nat → Int) : (Ly.run env.bare 200 [] (Ly.start Try.f21 [sl 0 0, .slice none 0 0] (mkH [some (ints .u8 q 0)]))).out? = some ([], .bool true) := by kernel_rfl
theorem eq21SN (n : Nat) (p : Nat → Int) : LCalls Try.prog 21 [sl 0 n, .slice none 0 0] (mkH [some (ints .u8 p n)]) (fun u _ => u = .bool (Nat.beq n 0)) := by
  by_cases h : n = 0
  · subst h
    exact LCalls_trust (Env.bare_ok envOk) 200 _ eq21get (by kernel_rfl) (eq21c p) trivial
  · have hb : Nat.beq n 0 = false := by rcases n with _ | n; exact absurd rfl h; rfl
    rw [hb]
    exact LCalls_trust (Env.bare_ok envOk) 200 _ eq21get (by kernel_rfl) (eq21b n p) (by simp [trusted]; omega)
theorem eq21NN : LCalls Try.prog 21 [.slice none 0 0, .slice none 0 0] (mkH []) (fun u _ => u = .bool true) :=
  LCalls_trust (v := .bool true) (Env.bare_ok envOk) 200 [] eq21get (by kernel_rfl) (t := []) (by kernel_rfl) trivial
theorem eq21con : ∀ args ρ args' w H, VRL ρ args args' → Rep ρ H w → ConGood Try.prog 21 args' w (conEq .u8 H args) := conEq_good eq21SS eq21NS eq21SN eq21NN
end Go.Proofs.Ytofimkcfenemlaa
