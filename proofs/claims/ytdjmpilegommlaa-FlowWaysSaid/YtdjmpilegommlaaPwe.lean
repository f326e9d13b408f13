/- Part 5 of the texts that the law needs, laid together. By program (pack.py). -/
import Derived.Test.YtdjmpilegommlaaPwc
import Derived.Test.YtdjmpilegommlaaPwd
import Derived.KernelRfl
import Derived.OpenShut
set_option linter.unusedVariables false
set_option linter.unusedSimpArgs false
noncomputable section
namespace Go.Proofs.Ytdjmpilegommlaa
open Go Go.Ly Go.RowKit
def cxV : Ctx := (((cx0.with 37 endsC).with 38 jumpsC).withC 57 atC)
theorem cxV_ok : cxV.Ok Try.prog := ((cx0_ok.with ends37_ans).with jumps38_ans).withC atC_good
def cxW : Ctx := cxV.withH 41 (hconTree cxV 600 41)
theorem cxW_ok : cxW.Ok Try.prog := cxV_ok.byRun cxV_ok 600 41
def rowT (a o n : Nat → Int) (k : Nat) : Bool := Nat.ble (0 + k) k && okN k (fun e x => ndG a o n (0 + e) x)
def sh (a : Nat → Int) : Nat → Int := fun e => a (0 + e)
theorem sh_eq (a : Nat → Int) : sh a = a := by funext e; simp [sh]
def xN (n : Nat → Int) (i : Int) : Int := n (0 + i.toNat)
def xO (o : Nat → Int) (i : Int) : Int := o (0 + i.toNat)
def xR (o : Nat → Int) (i : Int) : Int := IntKind.u16.wrap (bits .and .u8 (xO o i) 56)
def xB (a o : Nat → Int) (i : Int) : Int := IntKind.u16.wrap (a (0 + i.toNat) + IntKind.u16.wrap (sizeT (xO o i)))
def aN (k : Nat) (a n : Nat → Int) (i : Int) : Int := atN k (sh a) (xN n i)
def aR (k : Nat) (a o : Nat → Int) (i : Int) : Int := atN k (sh a) (xR o i)
def aB (k : Nat) (a o : Nat → Int) (i : Int) : Int := atN k (sh a) (xB a o i)
def m99 (o : Nat → Int) (i : Int) : Bool := bits .and .u8 (xO o i) 199 == 199
def rtn (o : Nat → Int) (i : Int) : Bool := bits .and .u8 (xO o i) 199 == 192
theorem gN19 : cxW.fn.get 19 = some Try.f19 := by kernel_rfl
def sN (a o n : Nat → Int) (k : Nat) (i : Int) : St := Ly.start Try.f19 [sls 0 k, .int .i64 i] (mkH [some (ndL a o n k)])
def nilT (b : Bool) : Value := .tuple ⟨[.slice none 0 0, .bool b]⟩
def rowP (r m : Nat) (b : Bool) : Value := .tuple ⟨[sl r m, .bool b]⟩
def preT (a o n : Nat → Int) (k : Nat) (i : Int) (l : List (Bool × Bool)) : List (Bool × Bool) := (decide (i < 0) == false, true) :: (decide ((k : Int) ≤ i), false) :: (ixB k i, true) :: (Nat.blt (0 + i.toNat) k, true) :: l
def preP (l : Path) : Path := (0, true) :: (4, false) :: (0, true) :: (0, true) :: l
theorem nx1a (a o n : Nat → Int) (k : Nat) (i : Int) : (Ly.run cxW 6000 (preP [(0, true), (0, true), (0, true)]) (sN a o n k i)).out? = some (preT a o n k i [(xO o i == 205, true), (rowT a o n k, true), (decide (aN k a n i < 0), true)], nilT true) := by kernel_rfl
theorem nx1b (a o n : Nat → Int) (k : Nat) (i : Int) : endsAt [3] (Ly.run cxW 6000 (preP [(0, true), (0, true), (0, false)]) (sN a o n k i)) = some (preT a o n k i [(xO o i == 205, true), (rowT a o n k, true), (decide (aN k a n i < 0), false)], rowP 3 1 (rtn o i), 4, [some (.row [.int .i64 (aN k a n i)] 3 1)]) := by kernel_rfl
theorem nx2a (a o n : Nat → Int) (k : Nat) (i : Int) : (Ly.run cxW 6000 (preP [(0, false), (0, true), (0, true), (0, true)]) (sN a o n k i)).out? = some (preT a o n k i [(xO o i == 205, false), (m99 o i, true), (rowT a o n k, true), (decide (aR k a o i < 0), true)], nilT true) := by kernel_rfl
theorem nx2b (a o n : Nat → Int) (k : Nat) (i : Int) : endsAt [3] (Ly.run cxW 6000 (preP [(0, false), (0, true), (0, true), (0, false)]) (sN a o n k i)) = some (preT a o n k i [(xO o i == 205, false), (m99 o i, true), (rowT a o n k, true), (decide (aR k a o i < 0), false)], rowP 3 1 (rtn o i), 4, [some (.row [.int .i64 (aR k a o i)] 3 1)]) := by kernel_rfl
theorem nx3a (a o n : Nat → Int) (k : Nat) (i : Int) : (Ly.run cxW 6000 (preP [(0, false), (0, false), (0, true), (0, true), (0, true), (0, true), (0, true)]) (sN a o n k i)).out? = some (preT a o n k i [(xO o i == 205, false), (m99 o i, false), (inb (xO o i), true), (endsB (xO o i), true), (xO o i == 195, true), (rowT a o n k, true), (decide (aN k a n i < 0), true)], nilT true) := by kernel_rfl
theorem nx3b (a o n : Nat → Int) (k : Nat) (i : Int) : endsAt [3] (Ly.run cxW 6000 (preP [(0, false), (0, false), (0, true), (0, true), (0, true), (0, true), (0, false)]) (sN a o n k i)) = some (preT a o n k i [(xO o i == 205, false), (m99 o i, false), (inb (xO o i), true), (endsB (xO o i), true), (xO o i == 195, true), (rowT a o n k, true), (decide (aN k a n i < 0), false)], rowP 3 1 (rtn o i), 4, [some (.row [.int .i64 (aN k a n i)] 3 1)]) := by kernel_rfl
theorem nx3c (a o n : Nat → Int) (k : Nat) (i : Int) : (Ly.run cxW 6000 (preP [(0, false), (0, false), (0, true), (0, true), (0, false)]) (sN a o n k i)).out? = some (preT a o n k i [(xO o i == 205, false), (m99 o i, false), (inb (xO o i), true), (endsB (xO o i), true), (xO o i == 195, false)], nilT true) := by kernel_rfl
theorem nx4a (a o n : Nat → Int) (k : Nat) (i : Int) : (Ly.run cxW 6000 (preP [(0, false), (0, false), (0, true), (0, false), (0, true), (0, true), (0, true), (0, true), (0, true), (0, true), (0, true)]) (sN a o n k i)).out? = some (preT a o n k i [(xO o i == 205, false), (m99 o i, false), (inb (xO o i), true), (endsB (xO o i), false), (inb (xO o i), true), (jumpsB (xO o i), true), (rowT a o n k, true), (decide (aN k a n i < 0), true), (inb (xO o i), true), (rowT a o n k, true), (decide (aB k a o i < 0), true)], nilT true) := by kernel_rfl
theorem nx4b (a o n : Nat → Int) (k : Nat) (i : Int) : endsAt [3] (Ly.run cxW 6000 (preP [(0, false), (0, false), (0, true), (0, false), (0, true), (0, true), (0, true), (0, true), (0, true), (0, true), (0, false)]) (sN a o n k i)) = some (preT a o n k i [(xO o i == 205, false), (m99 o i, false), (inb (xO o i), true), (endsB (xO o i), false), (inb (xO o i), true), (jumpsB (xO o i), true), (rowT a o n k, true), (decide (aN k a n i < 0), true), (inb (xO o i), true), (rowT a o n k, true), (decide (aB k a o i < 0), false)], rowP 3 1 (true), 4, [some (.row [.int .i64 (aB k a o i)] 3 1)]) := by kernel_rfl
theorem nx4c (a o n : Nat → Int) (k : Nat) (i : Int) : endsAt [3] (Ly.run cxW 6000 (preP [(0, false), (0, false), (0, true), (0, false), (0, true), (0, true), (0, true), (0, false), (4, true), (0, true), (0, true)]) (sN a o n k i)) = some (preT a o n k i [(xO o i == 205, false), (m99 o i, false), (inb (xO o i), true), (endsB (xO o i), false), (inb (xO o i), true), (jumpsB (xO o i), true), (rowT a o n k, true), (decide (aN k a n i < 0), false), (inb (xO o i), true), (rowT a o n k, true), (decide (aB k a o i < 0), true)], rowP 3 1 (true), 4, [some (.row [.int .i64 (aN k a n i)] 3 1)]) := by kernel_rfl
theorem nx4d (a o n : Nat → Int) (k : Nat) (i : Int) : endsAt [5] (Ly.run cxW 6000 (preP [(0, false), (0, false), (0, true), (0, false), (0, true), (0, true), (0, true), (0, false), (4, true), (0, true), (0, false), (33, false), (8, true), (21, false)]) (sN a o n k i)) = some (preT a o n k i [(xO o i == 205, false), (m99 o i, false), (inb (xO o i), true), (endsB (xO o i), false), (inb (xO o i), true), (jumpsB (xO o i), true), (rowT a o n k, true), (decide (aN k a n i < 0), false), (inb (xO o i), true), (rowT a o n k, true), (decide (aB k a o i < 0), false), ((aB k a o i != aB k a o i) == true, false), (decide (aB k a o i < aN k a n i), true), (aN k a n i == aB k a o i, false)], rowP 5 2 (rtn o i), 6, [some (.row [.int .i64 (aB k a o i), .int .i64 (aN k a n i)] 3 1)]) := by kernel_rfl
theorem nx4e (a o n : Nat → Int) (k : Nat) (i : Int) : endsAt [5] (Ly.run cxW 6000 (preP [(0, false), (0, false), (0, true), (0, false), (0, true), (0, true), (0, true), (0, false), (4, true), (0, true), (0, false), (33, false), (8, false), (5, false)]) (sN a o n k i)) = some (preT a o n k i [(xO o i == 205, false), (m99 o i, false), (inb (xO o i), true), (endsB (xO o i), false), (inb (xO o i), true), (jumpsB (xO o i), true), (rowT a o n k, true), (decide (aN k a n i < 0), false), (inb (xO o i), true), (rowT a o n k, true), (decide (aB k a o i < 0), false), ((aB k a o i != aB k a o i) == true, false), (decide (aB k a o i < aN k a n i), false), (aB k a o i == aN k a n i, false)], rowP 5 2 (rtn o i), 6, [some (.row [.int .i64 (aN k a n i), .int .i64 (aB k a o i)] 3 1)]) := by kernel_rfl
theorem nx4f (a o n : Nat → Int) (k : Nat) (i : Int) : endsAt [5] (Ly.run cxW 6000 (preP [(0, false), (0, false), (0, true), (0, false), (0, true), (0, true), (0, true), (0, false), (4, true), (0, true), (0, false), (33, false), (8, false), (5, true)]) (sN a o n k i)) = some (preT a o n k i [(xO o i == 205, false), (m99 o i, false), (inb (xO o i), true), (endsB (xO o i), false), (inb (xO o i), true), (jumpsB (xO o i), true), (rowT a o n k, true), (decide (aN k a n i < 0), false), (inb (xO o i), true), (rowT a o n k, true), (decide (aB k a o i < 0), false), ((aB k a o i != aB k a o i) == true, false), (decide (aB k a o i < aN k a n i), false), (aB k a o i == aN k a n i, true)], rowP 5 1 (rtn o i), 6, [some (.row [.int .i64 (aN k a n i), .int .i64 (0)] 3 1)]) := by kernel_rfl
theorem nx5a (a o n : Nat → Int) (k : Nat) (i : Int) : (Ly.run cxW 6000 (preP [(0, false), (0, false), (0, true), (0, false), (0, true), (0, false), (0, true), (0, true), (0, true)]) (sN a o n k i)).out? = some (preT a o n k i [(xO o i == 205, false), (m99 o i, false), (inb (xO o i), true), (endsB (xO o i), false), (inb (xO o i), true), (jumpsB (xO o i), false), (inb (xO o i), true), (rowT a o n k, true), (decide (aB k a o i < 0), true)], nilT true) := by kernel_rfl
theorem nx5b (a o n : Nat → Int) (k : Nat) (i : Int) : endsAt [3] (Ly.run cxW 6000 (preP [(0, false), (0, false), (0, true), (0, false), (0, true), (0, false), (0, true), (0, true), (0, false)]) (sN a o n k i)) = some (preT a o n k i [(xO o i == 205, false), (m99 o i, false), (inb (xO o i), true), (endsB (xO o i), false), (inb (xO o i), true), (jumpsB (xO o i), false), (inb (xO o i), true), (rowT a o n k, true), (decide (aB k a o i < 0), false)], rowP 3 1 (rtn o i), 4, [some (.row [.int .i64 (aB k a o i)] 3 1)]) := by kernel_rfl
theorem nx0a (a o n : Nat → Int) (k : Nat) (i : Int) : (Ly.run cxW 6000 [(0, false)] (sN a o n k i)).out? = some ([(decide (i < 0) == false, false)], nilT false) := by kernel_rfl
theorem nx0b (a o n : Nat → Int) (k : Nat) (i : Int) : (Ly.run cxW 6000 [(0, true), (4, true)] (sN a o n k i)).out? = some ([(decide (i < 0) == false, true), (decide ((k : Int) ≤ i), true)], nilT false) := by kernel_rfl
theorem nxN0 (i : Int) : (Ly.run cxW 6000 [(0, false)] (Ly.start Try.f19 [.slice none 0 0, .int .i64 i] (mkH []))).out? = some ([(decide (i < 0) == false, false)], nilT false) := by kernel_rfl
theorem nxN1 (i : Int) : (Ly.run cxW 6000 [(0, true), (4, true)] (Ly.start Try.f19 [.slice none 0 0, .int .i64 i] (mkH []))).out? = some ([(decide (i < 0) == false, true), (decide ((0 : Int) ≤ i), true)], nilT false) := by kernel_rfl
def nxOne (v : Int) (r : Bool) : List Int × Bool := bif decide (v < 0) then ([], true) else ([v], r)
def nxTwo (u v : Int) (r : Bool) : List Int × Bool := bif decide (u < 0) then (bif decide (v < 0) then ([], true) else ([v], true)) else bif decide (v < 0) then ([u], true) else bif decide (v < u) then ([v, u], r) else bif v == u then ([u], r) else ([u, v], r)
def nxI (k : Nat) (a o n : Nat → Int) (i : Int) : List Int × Bool := bif xO o i == 205 then nxOne (aN k a n i) (rtn o i) else bif m99 o i then nxOne (aR k a o i) (rtn o i) else bif endsB (xO o i) then (bif xO o i == 195 then nxOne (aN k a n i) (rtn o i) else ([], true)) else bif jumpsB (xO o i) then nxTwo (aN k a n i) (aB k a o i) (rtn o i) else nxOne (aB k a o i) (rtn o i)
def nxF (k : Nat) (a o n : Nat → Int) (i : Int) : List Int × Bool := bif decide (i < 0) || decide ((k : Int) ≤ i) then ([], false) else nxI k a o n i
def NxOk (a o n : Nat → Int) (k : Nat) (i : Int) (r : List Int × Bool) : Prop := (r.1 = [] ∧ LCalls Try.prog 19 [sls 0 k, .int .i64 i] (mkH [some (ndL a o n k)]) (fun u _ => u = nilT r.2)) ∨ (r.1 ≠ [] ∧ ∃ b c, LCalls Try.prog 19 [sls 0 k, .int .i64 i] (mkH [some (ndL a o n k)]) (fun u K => u = rowP b r.1.length r.2 ∧ K.get b = some (.row c 3 1) ∧ K.lock = 0) ∧ r.1.length ≤ c.length ∧ (∀ e, e < r.1.length → c[e]? = some (.int .i64 ((r.1[e]?).getD 0))) ∧ c.all cst = true)
section
variable {a o n : Nat → Int} {k : Nat} {i : Int}
theorem nx_nil {p : Path} {t : List (Bool × Bool)} {b : Bool} (h : (Ly.run cxW 6000 p (sN a o n k i)).out? = some (t, nilT b)) (ht : trusted t) : NxOk a o n k i ([], b) :=
  .inl ⟨rfl, LCalls_of cxW_ok gN19 (by kernel_rfl) (MWp.out cxW_ok 6000 p h ht (fun _ => rfl))⟩
theorem nx_row {p : Path} {t : List (Bool × Bool)} {b : Bool} {r nx : Nat} {c : List Value} {l : List Int} (h : endsAt [r] (Ly.run cxW 6000 p (sN a o n k i)) = some (t, rowP r l.length b, nx, [some (.row c 3 1)])) (ht : trusted t)
    (h0 : l ≠ []) (h1 : l.length ≤ c.length) (h2 : ∀ e, e < l.length → c[e]? = some (.int .i64 ((l[e]?).getD 0))) (h3 : c.all cst = true) : NxOk a o n k i (l, b) := by
  refine .inr ⟨h0, r, c, ?_, h1, h2, h3⟩
  refine LCalls_of cxW_ok gN19 (by kernel_rfl) ((MWp.ends cxW_ok 6000 p h ht).mono ?_)
  rintro v K ⟨e1, _, e2, e3⟩
  simp only [List.map_cons, List.map_nil, List.cons.injEq, and_true] at e2
  exact ⟨e1, e2, e3⟩
theorem one_ok {v : Int} {l : List Value} (e : Nat) (h : e < [v].length) : (Value.int .i64 v :: l)[e]? = some (.int .i64 (([v] : List Int)[e]?.getD 0)) := by
  have : e = 0 := by simpa using h
  subst this; rfl
theorem two_ok {u v : Int} (e : Nat) (h : e < [u, v].length) : [Value.int .i64 u, .int .i64 v][e]? = some (.int .i64 (([u, v] : List Int)[e]?.getD 0)) := by
  have : e = 0 ∨ e = 1 := by simp at h; omega
  rcases this with rfl | rfl <;> rfl
theorem pre_t {l : List (Bool × Bool)} (h0 : 0 ≤ i) (h1 : i < k) (hl : trusted l) : trusted (preT a o n k i l) := by
  have e : 0 + i.toNat = i.toNat := by omega
  have e2 : Nat.blt i.toNat k = true := by rw [Nat.blt_eq]; omega
  have e3 : ixB k i = true := by simp [ixB, h0, h1]
  have e4 : decide (i < 0) = false := by simpa using h0
  have e5 : decide ((k : Int) ≤ i) = false := by simpa using h1
  simp only [preT, trusted, e, e2, e3, e4, e5, hl, beq_self_eq_true, and_self]
theorem nx_ok (ho : ∀ e, e < k → inb (o e) = true) (hk : okN k (ndG a o n) = true) (i : Int) : NxOk a o n k i (nxF k a o n i) := by
  have hr : rowT a o n k = true := by
    have : (fun e x => ndG a o n (0 + e) x) = ndG a o n := by funext e x; simp
    unfold rowT; rw [this, hk]; simp
  by_cases h0 : i < 0
  · have e : nxF k a o n i = ([], false) := by unfold nxF; rw [decide_eq_true h0]; rfl
    rw [e]; exact nx_nil (nx0a a o n k i) (by simp [trusted, h0])
  by_cases h1 : (k : Int) ≤ i
  · have e : nxF k a o n i = ([], false) := by unfold nxF; rw [decide_eq_true h1, Bool.or_true]; rfl
    rw [e]; exact nx_nil (nx0b a o n k i) (by simp [trusted, h0, h1])
  have e : nxF k a o n i = nxI k a o n i := by unfold nxF; rw [decide_eq_false h0, decide_eq_false h1]; rfl
  rw [e]
  have g0 : 0 ≤ i := by omega
  have g1 : i < k := by omega
  have hi : inb (xO o i) = true := by unfold xO; rw [Nat.zero_add]; exact ho _ (by omega)
  have nn : ∀ x : Int, ((x != x) == true) = false := fun x => by simp
  unfold nxI
  cases c1 : (xO o i == 205) with
  | true =>
    simp only [cond_true, nxOne]
    cases c2 : decide (aN k a n i < 0) with
    | true => simp only [cond_true]; exact nx_nil (nx1a a o n k i) (pre_t g0 g1 (by simp only [trusted, hr, hi, c1, c2, nn, and_self]))
    | false => simp only [cond_false]; exact nx_row (l := [aN k a n i]) (nx1b a o n k i) (pre_t g0 g1 (by simp only [trusted, hr, hi, c1, c2, nn, and_self])) (by simp) (by simp) one_ok rfl
  | false =>
    simp only [cond_false]
    cases c2 : m99 o i with
    | true =>
      simp only [cond_true, nxOne]
      cases c3 : decide (aR k a o i < 0) with
      | true => simp only [cond_true]; exact nx_nil (nx2a a o n k i) (pre_t g0 g1 (by simp only [trusted, hr, hi, c1, c2, c3, nn, and_self]))
      | false => simp only [cond_false]; exact nx_row (l := [aR k a o i]) (nx2b a o n k i) (pre_t g0 g1 (by simp only [trusted, hr, hi, c1, c2, c3, nn, and_self])) (by simp) (by simp) one_ok rfl
    | false =>
      simp only [cond_false]
      cases c3 : endsB (xO o i) with
      | true =>
        simp only [cond_true]
        cases c4 : (xO o i == 195) with
        | true =>
          simp only [cond_true, nxOne]
          cases c5 : decide (aN k a n i < 0) with
          | true => simp only [cond_true]; exact nx_nil (nx3a a o n k i) (pre_t g0 g1 (by simp only [trusted, hr, hi, c1, c2, c3, c4, c5, nn, and_self]))
          | false => simp only [cond_false]; exact nx_row (l := [aN k a n i]) (nx3b a o n k i) (pre_t g0 g1 (by simp only [trusted, hr, hi, c1, c2, c3, c4, c5, nn, and_self])) (by simp) (by simp) one_ok rfl
        | false => simp only [cond_false]; exact nx_nil (nx3c a o n k i) (pre_t g0 g1 (by simp only [trusted, hr, hi, c1, c2, c3, c4, nn, and_self]))
      | false =>
        simp only [cond_false]
        cases c4 : jumpsB (xO o i) with
        | true =>
          simp only [cond_true, nxTwo]
          cases c5 : decide (aN k a n i < 0) with
          | true =>
            simp only [cond_true]
            cases c6 : decide (aB k a o i < 0) with
            | true => simp only [cond_true]; exact nx_nil (nx4a a o n k i) (pre_t g0 g1 (by simp only [trusted, hr, hi, c1, c2, c3, c4, c5, c6, nn, and_self]))
            | false => simp only [cond_false]; exact nx_row (l := [aB k a o i]) (nx4b a o n k i) (pre_t g0 g1 (by simp only [trusted, hr, hi, c1, c2, c3, c4, c5, c6, nn, and_self])) (by simp) (by simp) one_ok rfl
          | false =>
            simp only [cond_false]
            cases c6 : decide (aB k a o i < 0) with
            | true => simp only [cond_true]; exact nx_row (l := [aN k a n i]) (nx4c a o n k i) (pre_t g0 g1 (by simp only [trusted, hr, hi, c1, c2, c3, c4, c5, c6, nn, and_self])) (by simp) (by simp) one_ok rfl
            | false =>
              simp only [cond_false]
              cases c7 : decide (aB k a o i < aN k a n i) with
              | true =>
                simp only [cond_true]
                have c8 : (aN k a n i == aB k a o i) = false := by
                  have := of_decide_eq_true c7
                  simp; omega
                exact nx_row (l := [aB k a o i, aN k a n i]) (nx4d a o n k i) (pre_t g0 g1 (by simp only [trusted, hr, hi, c1, c2, c3, c4, c5, c6, c7, c8, nn, and_self])) (by simp) (by simp) two_ok rfl
              | false =>
                simp only [cond_false]
                cases c8 : (aB k a o i == aN k a n i) with
                | true => simp only [cond_true]; exact nx_row (l := [aN k a n i]) (nx4f a o n k i) (pre_t g0 g1 (by simp only [trusted, hr, hi, c1, c2, c3, c4, c5, c6, c7, c8, nn, and_self])) (by simp) (by simp) one_ok rfl
                | false => simp only [cond_false]; exact nx_row (l := [aN k a n i, aB k a o i]) (nx4e a o n k i) (pre_t g0 g1 (by simp only [trusted, hr, hi, c1, c2, c3, c4, c5, c6, c7, c8, nn, and_self])) (by simp) (by simp) two_ok rfl
        | false =>
          simp only [cond_false, nxOne]
          cases c5 : decide (aB k a o i < 0) with
          | true => simp only [cond_true]; exact nx_nil (nx5a a o n k i) (pre_t g0 g1 (by simp only [trusted, hr, hi, c1, c2, c3, c4, c5, nn, and_self]))
          | false => simp only [cond_false]; exact nx_row (l := [aB k a o i]) (nx5b a o n k i) (pre_t g0 g1 (by simp only [trusted, hr, hi, c1, c2, c3, c4, c5, nn, and_self])) (by simp) (by simp) one_ok rfl
end
def nxMk (n : Nat) (G : Nat → Nat → Value) (r : List Value) : PairA := match r with
  | [.int .i64 i] => ⟨okN n G && (List.range n).all fun e => inb (oOf G e), (nxF n (aOf G) (oOf G) (nOf G) i).1.length, fun e => ((nxF n (aOf G) (oOf G) (nOf G) i).1[e]?).getD 0, .bool (nxF n (aOf G) (oOf G) (nOf G) i).2⟩
  | _ => ⟨false, 0, fun _ => 0, .bool false⟩
def nxC : Heap → List Value → ER := rowsPair 3 nxMk 3
theorem nx_nilN (i : Int) (a o n : Nat → Int) : nxF 0 a o n i = ([], false) := by
  unfold nxF
  have : (decide (i < 0) || decide (((0 : Nat) : Int) ≤ i)) = true := by simp; omega
  rw [this]; rfl
theorem nxC_good (H : Heap) (args : List Value) : HGood Try.prog 19 args H (nxC H args) := by
  refine rowsPair_good (fun n G r => ?_) (fun n G r hp hg h0 => ?_) (fun n G r hp hg h0 => ?_) (fun G r hp hg => ?_) H args
  · unfold nxMk; split <;> simp [plain]
  · unfold nxMk at hg h0 ⊢
    split at hg
    · simp only [Bool.and_eq_true, List.all_eq_true, List.mem_range] at hg
      obtain ⟨h1, h2⟩ := okN_eq hg.1
      rename_i i
      rcases nx_ok (n := nOf G) (a := aOf G) (o := oOf G) (k := n) hg.2 (okN_nd _ _ _ h1) i with ⟨q, _⟩ | ⟨q, b, c, q1, q2, q3, q4⟩
      · exact absurd (show (nxF n (aOf G) (oOf G) (nOf G) i).1.length = 0 by rw [q]; rfl) h0
      · exact ⟨b, c, LCalls.argEq h2 q1, q2, q3, q4⟩
    · cases hg
  · unfold nxMk at hg h0 ⊢
    split at hg
    · simp only [Bool.and_eq_true, List.all_eq_true, List.mem_range] at hg
      obtain ⟨h1, h2⟩ := okN_eq hg.1
      rename_i i
      rcases nx_ok (n := nOf G) (a := aOf G) (o := oOf G) (k := n) hg.2 (okN_nd _ _ _ h1) i with ⟨q, q1⟩ | ⟨q, _⟩
      · exact LCalls.argEq h2 q1
      · exact absurd (List.eq_nil_of_length_eq_zero h0) q
    · cases hg
  · unfold nxMk at hg ⊢
    split at hg
    · rename_i i
      simp only [nx_nilN]
      refine ⟨rfl, LCalls_of cxW_ok gN19 (by kernel_rfl) ?_⟩
      by_cases h0 : i < 0
      · exact MWp.out cxW_ok 6000 _ (nxN0 i) (by simp [trusted, h0]) (fun _ => rfl)
      · exact MWp.out cxW_ok 6000 _ (nxN1 i) (by simp [trusted]; omega) (fun _ => rfl)
    · cases hg
end Go.Proofs.Ytdjmpilegommlaa
namespace Go.Proofs.Ytdjmpilegommlaa
open Go Go.Ly Go.RowKit
structure RQ (a b : Mc) : Prop where
  r0 : a.r0 = b.r0
  r1 : a.r1 = b.r1
  r2 : a.r2 = b.r2
  r3 : a.r3 = b.r3
  r4 : a.r4 = b.r4
  r5 : a.r5 = b.r5
  r7 : a.r7 = b.r7
  sp : a.sp = b.sp
  pc : a.pc = b.pc
  halt : a.halt = b.halt
def EqA (a b : Mc) : Prop := a.fs = b.fs ∧ a.fz = b.fz ∧ a.fx = b.fx ∧ a.fp = b.fp
def FR (v : Int) (m n a b : Mc) : Prop := (v = 31 ∧ EqA a b ∧ a.fc = b.fc) ∨ (v = 15 ∧ EqA a b ∧ a.fc = m.fc ∧ b.fc = n.fc) ∨ (v = 16 ∧ a.fc = b.fc ∧ EqA a m ∧ EqA b n) ∨ (v = 0 ∧ (EqA a m ∧ a.fc = m.fc) ∧ EqA b n ∧ b.fc = n.fc)
end Go.Proofs.Ytdjmpilegommlaa
namespace Go.Proofs.Ytdjmpilegommlaa
open Go Go.Ly Go.RowKit
theorem p00_0 (m : Mc) (g : Nat → Int) (b1 b2 : Int) : endsAt [0, 1] (Ly.run cx3 3000 [] (sP m g 0 b1 b2)) = some (T [], .int .i64 0, 5, hPm { m with pc := w16 (m.pc + 1) } (memL g)) := by kernel_rfl
theorem p01_0 (m : Mc) (g : Nat → Int) (b1 b2 : Int) : endsAt [0, 1] (Ly.run cx3 3000 [] (sP m g 1 b1 b2)) = some (T [], .int .i64 0, 5, hPm { m with pc := w16 (m.pc + 3), r0 := w8 ((or16 (w16 (or16 0 (w16 b2) * 256)) (w16 b1)).fdiv 256), r1 := w8 (or16 (w16 (or16 0 (w16 b2) * 256)) (w16 b1)) } (memL g)) := by kernel_rfl
theorem p02_0 (m : Mc) (g : Nat → Int) (b1 b2 : Int) : endsAt [0, 1] (Ly.run cx3 3000 [(33, true), (0, true)] (sP m g 2 b1 b2)) = some (T [(true && lt16 (or16 (w16 (w16 m.r0 * 256)) (w16 m.r1))), bl (ix (or16 (w16 (w16 m.r0 * 256)) (w16 m.r1)))], .int .i64 0, 5, hPm { m with pc := w16 (m.pc + 1) } (M1 g (ix (or16 (w16 (w16 m.r0 * 256)) (w16 m.r1))) (m.r7))) := by kernel_rfl
@[simp] def z03_0 (m : Mc) : Mc := { m with pc := w16 (m.pc + 1), r0 := w8 ((w16 (or16 (w16 (w16 m.r0 * 256)) (w16 m.r1) + 1)).fdiv 256), r1 := w8 (w16 (or16 (w16 (w16 m.r0 * 256)) (w16 m.r1) + 1)) }
theorem p03_0 (m : Mc) (g : Nat → Int) (b1 b2 : Int) : endsAt [0, 1] (Ly.run cx3 3000 [] (sP m g 3 b1 b2)) = some (T [], .int .i64 0, 5, hPm (z03_0 m) (memL g)) := by kernel_rfl
@[simp] def z04_0 (m : Mc) : Mc := { m with fp := par ((m.r0 + 1) % 256), fs := decide (128 ≤ (m.r0 + 1) % 256), fx := decide (15 < m.r0 % 16 + 1), fz := (m.r0 + 1) % 256 == 0, pc := w16 (m.pc + 1), r0 := (m.r0 + 1) % 256 }
theorem p04_0 (m : Mc) (g : Nat → Int) (b1 b2 : Int) : endsAt [0, 1] (Ly.run cx3 3000 [(21, true)] (sP m g 4 b1 b2)) = some (T [inb m.r0], .int .i64 0, 5, hPm (z04_0 m) (memL g)) := by kernel_rfl
@[simp] def z05_0 (m : Mc) : Mc := { m with fp := par ((m.r0 - 1) % 256), fs := decide (128 ≤ (m.r0 - 1) % 256), fx := decide (15 < m.r0 % 16 + 15), fz := (m.r0 - 1) % 256 == 0, pc := w16 (m.pc + 1), r0 := (m.r0 - 1) % 256 }
theorem p05_0 (m : Mc) (g : Nat → Int) (b1 b2 : Int) : endsAt [0, 1] (Ly.run cx3 3000 [(22, true)] (sP m g 5 b1 b2)) = some (T [inb m.r0], .int .i64 0, 5, hPm (z05_0 m) (memL g)) := by kernel_rfl
theorem p06_0 (m : Mc) (g : Nat → Int) (b1 b2 : Int) : endsAt [0, 1] (Ly.run cx3 3000 [] (sP m g 6 b1 b2)) = some (T [], .int .i64 0, 5, hPm { m with pc := w16 (m.pc + 2), r0 := w8 (or16 0 (w16 b1)) } (memL g)) := by kernel_rfl
@[simp] def z07_0 (m : Mc) : Mc := { m with fc := decide (128 ≤ m.r7), pc := w16 (m.pc + 1), r7 := (2 * m.r7 + m.r7 / 128) % 256 }
theorem p07_0 (m : Mc) (g : Nat → Int) (b1 b2 : Int) : endsAt [0, 1] (Ly.run cx3 3000 [(27, true)] (sP m g 7 b1 b2)) = some (T [inb m.r7], .int .i64 0, 5, hPm (z07_0 m) (memL g)) := by kernel_rfl
@[simp] def z09_0 (m : Mc) : Mc := { m with fc := decide (65535 < or16 (w16 (w16 m.r4 * 256)) (w16 m.r5) + or16 (w16 (w16 m.r0 * 256)) (w16 m.r1)), pc := w16 (m.pc + 1), r4 := w8 (((or16 (w16 (w16 m.r4 * 256)) (w16 m.r5) + or16 (w16 (w16 m.r0 * 256)) (w16 m.r1)) % 65536).fdiv 256), r5 := w8 ((or16 (w16 (w16 m.r4 * 256)) (w16 m.r5) + or16 (w16 (w16 m.r0 * 256)) (w16 m.r1)) % 65536) }
theorem p09_0 (m : Mc) (g : Nat → Int) (b1 b2 : Int) : endsAt [0, 1] (Ly.run cx3 3000 [(37, true)] (sP m g 9 b1 b2)) = some (T [true && decide (or16 (w16 (w16 m.r4 * 256)) (w16 m.r5) ≤ 65535) && (true && decide (or16 (w16 (w16 m.r0 * 256)) (w16 m.r1) ≤ 65535))], .int .i64 0, 5, hPm (z09_0 m) (memL g)) := by kernel_rfl
@[simp] def z0a_0 (m : Mc) (g : Nat → Int) : Mc := { m with pc := w16 (m.pc + 1), r7 := g (ix (or16 (w16 (w16 m.r0 * 256)) (w16 m.r1))) }
theorem p0a_0 (m : Mc) (g : Nat → Int) (b1 b2 : Int) : endsAt [0, 1] (Ly.run cx3 3000 [(34, true), (0, true)] (sP m g 10 b1 b2)) = some (T [(true && lt16 (or16 (w16 (w16 m.r0 * 256)) (w16 m.r1))), bl (ix (or16 (w16 (w16 m.r0 * 256)) (w16 m.r1)))], .int .i64 0, 5, hPm (z0a_0 m g) (memL g)) := by kernel_rfl
@[simp] def z0b_0 (m : Mc) : Mc := { m with pc := w16 (m.pc + 1), r0 := w8 ((w16 (or16 (w16 (w16 m.r0 * 256)) (w16 m.r1) - 1)).fdiv 256), r1 := w8 (w16 (or16 (w16 (w16 m.r0 * 256)) (w16 m.r1) - 1)) }
theorem p0b_0 (m : Mc) (g : Nat → Int) (b1 b2 : Int) : endsAt [0, 1] (Ly.run cx3 3000 [] (sP m g 11 b1 b2)) = some (T [], .int .i64 0, 5, hPm (z0b_0 m) (memL g)) := by kernel_rfl
@[simp] def z0c_0 (m : Mc) : Mc := { m with fp := par ((m.r1 + 1) % 256), fs := decide (128 ≤ (m.r1 + 1) % 256), fx := decide (15 < m.r1 % 16 + 1), fz := (m.r1 + 1) % 256 == 0, pc := w16 (m.pc + 1), r1 := (m.r1 + 1) % 256 }
theorem p0c_0 (m : Mc) (g : Nat → Int) (b1 b2 : Int) : endsAt [0, 1] (Ly.run cx3 3000 [(21, true)] (sP m g 12 b1 b2)) = some (T [inb m.r1], .int .i64 0, 5, hPm (z0c_0 m) (memL g)) := by kernel_rfl
@[simp] def z0d_0 (m : Mc) : Mc := { m with fp := par ((m.r1 - 1) % 256), fs := decide (128 ≤ (m.r1 - 1) % 256), fx := decide (15 < m.r1 % 16 + 15), fz := (m.r1 - 1) % 256 == 0, pc := w16 (m.pc + 1), r1 := (m.r1 - 1) % 256 }
theorem p0d_0 (m : Mc) (g : Nat → Int) (b1 b2 : Int) : endsAt [0, 1] (Ly.run cx3 3000 [(22, true)] (sP m g 13 b1 b2)) = some (T [inb m.r1], .int .i64 0, 5, hPm (z0d_0 m) (memL g)) := by kernel_rfl
theorem p0e_0 (m : Mc) (g : Nat → Int) (b1 b2 : Int) : endsAt [0, 1] (Ly.run cx3 3000 [] (sP m g 14 b1 b2)) = some (T [], .int .i64 0, 5, hPm { m with pc := w16 (m.pc + 2), r1 := w8 (or16 0 (w16 b1)) } (memL g)) := by kernel_rfl
@[simp] def z0f_0 (m : Mc) : Mc := { m with fc := m.r7 % 2 == 1, pc := w16 (m.pc + 1), r7 := m.r7 / 2 + m.r7 % 2 * 128 }
theorem p0f_0 (m : Mc) (g : Nat → Int) (b1 b2 : Int) : endsAt [0, 1] (Ly.run cx3 3000 [(27, true)] (sP m g 15 b1 b2)) = some (T [inb m.r7], .int .i64 0, 5, hPm (z0f_0 m) (memL g)) := by kernel_rfl
end Go.Proofs.Ytdjmpilegommlaa
namespace Go.Proofs.Ytdjmpilegommlaa
open Go Go.Ly Go.RowKit
end Go.Proofs.Ytdjmpilegommlaa
namespace Go.Proofs.Ytdjmpilegommlaa
open Go Go.Ly Go.RowKit
theorem p11_0 (m : Mc) (g : Nat → Int) (b1 b2 : Int) : endsAt [0, 1] (Ly.run cx3 3000 [] (sP m g 17 b1 b2)) = some (T [], .int .i64 0, 5, hPm { m with pc := w16 (m.pc + 3), r2 := w8 ((or16 (w16 (or16 0 (w16 b2) * 256)) (w16 b1)).fdiv 256), r3 := w8 (or16 (w16 (or16 0 (w16 b2) * 256)) (w16 b1)) } (memL g)) := by kernel_rfl
theorem p12_0 (m : Mc) (g : Nat → Int) (b1 b2 : Int) : endsAt [0, 1] (Ly.run cx3 3000 [(33, true), (0, true)] (sP m g 18 b1 b2)) = some (T [(true && lt16 (or16 (w16 (w16 m.r2 * 256)) (w16 m.r3))), bl (ix (or16 (w16 (w16 m.r2 * 256)) (w16 m.r3)))], .int .i64 0, 5, hPm { m with pc := w16 (m.pc + 1) } (M1 g (ix (or16 (w16 (w16 m.r2 * 256)) (w16 m.r3))) (m.r7))) := by kernel_rfl
@[simp] def z13_0 (m : Mc) : Mc := { m with pc := w16 (m.pc + 1), r2 := w8 ((w16 (or16 (w16 (w16 m.r2 * 256)) (w16 m.r3) + 1)).fdiv 256), r3 := w8 (w16 (or16 (w16 (w16 m.r2 * 256)) (w16 m.r3) + 1)) }
theorem p13_0 (m : Mc) (g : Nat → Int) (b1 b2 : Int) : endsAt [0, 1] (Ly.run cx3 3000 [] (sP m g 19 b1 b2)) = some (T [], .int .i64 0, 5, hPm (z13_0 m) (memL g)) := by kernel_rfl
@[simp] def z14_0 (m : Mc) : Mc := { m with fp := par ((m.r2 + 1) % 256), fs := decide (128 ≤ (m.r2 + 1) % 256), fx := decide (15 < m.r2 % 16 + 1), fz := (m.r2 + 1) % 256 == 0, pc := w16 (m.pc + 1), r2 := (m.r2 + 1) % 256 }
theorem p14_0 (m : Mc) (g : Nat → Int) (b1 b2 : Int) : endsAt [0, 1] (Ly.run cx3 3000 [(21, true)] (sP m g 20 b1 b2)) = some (T [inb m.r2], .int .i64 0, 5, hPm (z14_0 m) (memL g)) := by kernel_rfl
@[simp] def z15_0 (m : Mc) : Mc := { m with fp := par ((m.r2 - 1) % 256), fs := decide (128 ≤ (m.r2 - 1) % 256), fx := decide (15 < m.r2 % 16 + 15), fz := (m.r2 - 1) % 256 == 0, pc := w16 (m.pc + 1), r2 := (m.r2 - 1) % 256 }
theorem p15_0 (m : Mc) (g : Nat → Int) (b1 b2 : Int) : endsAt [0, 1] (Ly.run cx3 3000 [(22, true)] (sP m g 21 b1 b2)) = some (T [inb m.r2], .int .i64 0, 5, hPm (z15_0 m) (memL g)) := by kernel_rfl
theorem p16_0 (m : Mc) (g : Nat → Int) (b1 b2 : Int) : endsAt [0, 1] (Ly.run cx3 3000 [] (sP m g 22 b1 b2)) = some (T [], .int .i64 0, 5, hPm { m with pc := w16 (m.pc + 2), r2 := w8 (or16 0 (w16 b1)) } (memL g)) := by kernel_rfl
@[simp] def z17_0 (m : Mc) : Mc := { m with fc := decide (128 ≤ m.r7), pc := w16 (m.pc + 1), r7 := (2 * m.r7 + cI m.fc) % 256 }
theorem p17_0 (m : Mc) (g : Nat → Int) (b1 b2 : Int) : endsAt [0, 1] (Ly.run cx3 3000 [(27, true)] (sP m g 23 b1 b2)) = some (T [inb m.r7], .int .i64 0, 5, hPm (z17_0 m) (memL g)) := by kernel_rfl
@[simp] def z19_0 (m : Mc) : Mc := { m with fc := decide (65535 < or16 (w16 (w16 m.r4 * 256)) (w16 m.r5) + or16 (w16 (w16 m.r2 * 256)) (w16 m.r3)), pc := w16 (m.pc + 1), r4 := w8 (((or16 (w16 (w16 m.r4 * 256)) (w16 m.r5) + or16 (w16 (w16 m.r2 * 256)) (w16 m.r3)) % 65536).fdiv 256), r5 := w8 ((or16 (w16 (w16 m.r4 * 256)) (w16 m.r5) + or16 (w16 (w16 m.r2 * 256)) (w16 m.r3)) % 65536) }
theorem p19_0 (m : Mc) (g : Nat → Int) (b1 b2 : Int) : endsAt [0, 1] (Ly.run cx3 3000 [(37, true)] (sP m g 25 b1 b2)) = some (T [true && decide (or16 (w16 (w16 m.r4 * 256)) (w16 m.r5) ≤ 65535) && (true && decide (or16 (w16 (w16 m.r2 * 256)) (w16 m.r3) ≤ 65535))], .int .i64 0, 5, hPm (z19_0 m) (memL g)) := by kernel_rfl
@[simp] def z1a_0 (m : Mc) (g : Nat → Int) : Mc := { m with pc := w16 (m.pc + 1), r7 := g (ix (or16 (w16 (w16 m.r2 * 256)) (w16 m.r3))) }
theorem p1a_0 (m : Mc) (g : Nat → Int) (b1 b2 : Int) : endsAt [0, 1] (Ly.run cx3 3000 [(34, true), (0, true)] (sP m g 26 b1 b2)) = some (T [(true && lt16 (or16 (w16 (w16 m.r2 * 256)) (w16 m.r3))), bl (ix (or16 (w16 (w16 m.r2 * 256)) (w16 m.r3)))], .int .i64 0, 5, hPm (z1a_0 m g) (memL g)) := by kernel_rfl
@[simp] def z1b_0 (m : Mc) : Mc := { m with pc := w16 (m.pc + 1), r2 := w8 ((w16 (or16 (w16 (w16 m.r2 * 256)) (w16 m.r3) - 1)).fdiv 256), r3 := w8 (w16 (or16 (w16 (w16 m.r2 * 256)) (w16 m.r3) - 1)) }
theorem p1b_0 (m : Mc) (g : Nat → Int) (b1 b2 : Int) : endsAt [0, 1] (Ly.run cx3 3000 [] (sP m g 27 b1 b2)) = some (T [], .int .i64 0, 5, hPm (z1b_0 m) (memL g)) := by kernel_rfl
@[simp] def z1c_0 (m : Mc) : Mc := { m with fp := par ((m.r3 + 1) % 256), fs := decide (128 ≤ (m.r3 + 1) % 256), fx := decide (15 < m.r3 % 16 + 1), fz := (m.r3 + 1) % 256 == 0, pc := w16 (m.pc + 1), r3 := (m.r3 + 1) % 256 }
theorem p1c_0 (m : Mc) (g : Nat → Int) (b1 b2 : Int) : endsAt [0, 1] (Ly.run cx3 3000 [(21, true)] (sP m g 28 b1 b2)) = some (T [inb m.r3], .int .i64 0, 5, hPm (z1c_0 m) (memL g)) := by kernel_rfl
@[simp] def z1d_0 (m : Mc) : Mc := { m with fp := par ((m.r3 - 1) % 256), fs := decide (128 ≤ (m.r3 - 1) % 256), fx := decide (15 < m.r3 % 16 + 15), fz := (m.r3 - 1) % 256 == 0, pc := w16 (m.pc + 1), r3 := (m.r3 - 1) % 256 }
theorem p1d_0 (m : Mc) (g : Nat → Int) (b1 b2 : Int) : endsAt [0, 1] (Ly.run cx3 3000 [(22, true)] (sP m g 29 b1 b2)) = some (T [inb m.r3], .int .i64 0, 5, hPm (z1d_0 m) (memL g)) := by kernel_rfl
theorem p1e_0 (m : Mc) (g : Nat → Int) (b1 b2 : Int) : endsAt [0, 1] (Ly.run cx3 3000 [] (sP m g 30 b1 b2)) = some (T [], .int .i64 0, 5, hPm { m with pc := w16 (m.pc + 2), r3 := w8 (or16 0 (w16 b1)) } (memL g)) := by kernel_rfl
@[simp] def z1f_0 (m : Mc) : Mc := { m with fc := m.r7 % 2 == 1, pc := w16 (m.pc + 1), r7 := m.r7 / 2 + 128 * cI m.fc }
theorem p1f_0 (m : Mc) (g : Nat → Int) (b1 b2 : Int) : endsAt [0, 1] (Ly.run cx3 3000 [(27, true)] (sP m g 31 b1 b2)) = some (T [inb m.r7], .int .i64 0, 5, hPm (z1f_0 m) (memL g)) := by kernel_rfl
end Go.Proofs.Ytdjmpilegommlaa
namespace Go.Proofs.Ytdjmpilegommlaa
open Go Go.Ly Go.RowKit
end Go.Proofs.Ytdjmpilegommlaa
namespace Go.Proofs.Ytdjmpilegommlaa
open Go Go.Ly Go.RowKit
theorem p21_0 (m : Mc) (g : Nat → Int) (b1 b2 : Int) : endsAt [0, 1] (Ly.run cx3 3000 [] (sP m g 33 b1 b2)) = some (T [], .int .i64 0, 5, hPm { m with pc := w16 (m.pc + 3), r4 := w8 ((or16 (w16 (or16 0 (w16 b2) * 256)) (w16 b1)).fdiv 256), r5 := w8 (or16 (w16 (or16 0 (w16 b2) * 256)) (w16 b1)) } (memL g)) := by kernel_rfl
theorem p22_0 (m : Mc) (g : Nat → Int) (b1 b2 : Int) : endsAt [0, 1] (Ly.run cx3 3000 [(33, true), (0, true), (2, true), (0, true)] (sP m g 34 b1 b2)) = some (T [(true && lt16 (or16 (w16 (or16 0 (w16 b2) * 256)) (w16 b1))), bl (ix (or16 (w16 (or16 0 (w16 b2) * 256)) (w16 b1))), (true && lt16 (w16 (or16 (w16 (or16 0 (w16 b2) * 256)) (w16 b1) + 1))), bl (ix (w16 (or16 (w16 (or16 0 (w16 b2) * 256)) (w16 b1) + 1)))], .int .i64 0, 6, hPm { m with pc := w16 (m.pc + 3) } (M2 g (ix (or16 (w16 (or16 0 (w16 b2) * 256)) (w16 b1))) (m.r5) (ix (w16 (or16 (w16 (or16 0 (w16 b2) * 256)) (w16 b1) + 1))) (m.r4))) := by kernel_rfl
@[simp] def z23_0 (m : Mc) : Mc := { m with pc := w16 (m.pc + 1), r4 := w8 ((w16 (or16 (w16 (w16 m.r4 * 256)) (w16 m.r5) + 1)).fdiv 256), r5 := w8 (w16 (or16 (w16 (w16 m.r4 * 256)) (w16 m.r5) + 1)) }
theorem p23_0 (m : Mc) (g : Nat → Int) (b1 b2 : Int) : endsAt [0, 1] (Ly.run cx3 3000 [] (sP m g 35 b1 b2)) = some (T [], .int .i64 0, 5, hPm (z23_0 m) (memL g)) := by kernel_rfl
@[simp] def z24_0 (m : Mc) : Mc := { m with fp := par ((m.r4 + 1) % 256), fs := decide (128 ≤ (m.r4 + 1) % 256), fx := decide (15 < m.r4 % 16 + 1), fz := (m.r4 + 1) % 256 == 0, pc := w16 (m.pc + 1), r4 := (m.r4 + 1) % 256 }
theorem p24_0 (m : Mc) (g : Nat → Int) (b1 b2 : Int) : endsAt [0, 1] (Ly.run cx3 3000 [(21, true)] (sP m g 36 b1 b2)) = some (T [inb m.r4], .int .i64 0, 5, hPm (z24_0 m) (memL g)) := by kernel_rfl
@[simp] def z25_0 (m : Mc) : Mc := { m with fp := par ((m.r4 - 1) % 256), fs := decide (128 ≤ (m.r4 - 1) % 256), fx := decide (15 < m.r4 % 16 + 15), fz := (m.r4 - 1) % 256 == 0, pc := w16 (m.pc + 1), r4 := (m.r4 - 1) % 256 }
theorem p25_0 (m : Mc) (g : Nat → Int) (b1 b2 : Int) : endsAt [0, 1] (Ly.run cx3 3000 [(22, true)] (sP m g 37 b1 b2)) = some (T [inb m.r4], .int .i64 0, 5, hPm (z25_0 m) (memL g)) := by kernel_rfl
theorem p26_0 (m : Mc) (g : Nat → Int) (b1 b2 : Int) : endsAt [0, 1] (Ly.run cx3 3000 [] (sP m g 38 b1 b2)) = some (T [], .int .i64 0, 5, hPm { m with pc := w16 (m.pc + 2), r4 := w8 (or16 0 (w16 b1)) } (memL g)) := by kernel_rfl
@[simp] def z27_0 (m : Mc) : Mc := { m with fc := daaH m.r7 m.fx m.fc, fp := par ((m.r7 + 6 * cI (daaL m.r7 m.fx) + 96 * cI (daaH m.r7 m.fx m.fc)) % 256), fs := decide (128 ≤ (m.r7 + 6 * cI (daaL m.r7 m.fx) + 96 * cI (daaH m.r7 m.fx m.fc)) % 256), fx := decide (9 < m.r7 % 16), fz := (m.r7 + 6 * cI (daaL m.r7 m.fx) + 96 * cI (daaH m.r7 m.fx m.fc)) % 256 == 0, pc := w16 (m.pc + 1), r7 := (m.r7 + 6 * cI (daaL m.r7 m.fx) + 96 * cI (daaH m.r7 m.fx m.fc)) % 256 }
theorem p27_0 (m : Mc) (g : Nat → Int) (b1 b2 : Int) : endsAt [0, 1] (Ly.run cx3 3000 [(24, true)] (sP m g 39 b1 b2)) = some (T [inb m.r7], .int .i64 0, 5, hPm (z27_0 m) (memL g)) := by kernel_rfl
@[simp] def z29_0 (m : Mc) : Mc := { m with fc := decide (65535 < or16 (w16 (w16 m.r4 * 256)) (w16 m.r5) + or16 (w16 (w16 m.r4 * 256)) (w16 m.r5)), pc := w16 (m.pc + 1), r4 := w8 (((or16 (w16 (w16 m.r4 * 256)) (w16 m.r5) + or16 (w16 (w16 m.r4 * 256)) (w16 m.r5)) % 65536).fdiv 256), r5 := w8 ((or16 (w16 (w16 m.r4 * 256)) (w16 m.r5) + or16 (w16 (w16 m.r4 * 256)) (w16 m.r5)) % 65536) }
theorem p29_0 (m : Mc) (g : Nat → Int) (b1 b2 : Int) : endsAt [0, 1] (Ly.run cx3 3000 [(37, true)] (sP m g 41 b1 b2)) = some (T [true && decide (or16 (w16 (w16 m.r4 * 256)) (w16 m.r5) ≤ 65535) && (true && decide (or16 (w16 (w16 m.r4 * 256)) (w16 m.r5) ≤ 65535))], .int .i64 0, 5, hPm (z29_0 m) (memL g)) := by kernel_rfl
theorem p2a_0 (m : Mc) (g : Nat → Int) (b1 b2 : Int) : endsAt [0, 1] (Ly.run cx3 3000 [(30, true), (0, true), (0, true), (0, true)] (sP m g 42 b1 b2)) = some (T [(true && lt16 (or16 (w16 (or16 0 (w16 b2) * 256)) (w16 b1))), bl (ix (or16 (w16 (or16 0 (w16 b2) * 256)) (w16 b1))), (true && lt16 (w16 (or16 (w16 (or16 0 (w16 b2) * 256)) (w16 b1) + 1))), bl (ix (w16 (or16 (w16 (or16 0 (w16 b2) * 256)) (w16 b1) + 1)))], .int .i64 0, 5, hPm { m with pc := w16 (m.pc + 3), r4 := w8 ((or16 (w16 (g (ix (or16 (w16 (or16 0 (w16 b2) * 256)) (w16 b1))))) (w16 (w16 (g (ix (w16 (or16 (w16 (or16 0 (w16 b2) * 256)) (w16 b1) + 1)))) * 256))).fdiv 256), r5 := w8 (or16 (w16 (g (ix (or16 (w16 (or16 0 (w16 b2) * 256)) (w16 b1))))) (w16 (w16 (g (ix (w16 (or16 (w16 (or16 0 (w16 b2) * 256)) (w16 b1) + 1)))) * 256))) } (memL g)) := by kernel_rfl
@[simp] def z2b_0 (m : Mc) : Mc := { m with pc := w16 (m.pc + 1), r4 := w8 ((w16 (or16 (w16 (w16 m.r4 * 256)) (w16 m.r5) - 1)).fdiv 256), r5 := w8 (w16 (or16 (w16 (w16 m.r4 * 256)) (w16 m.r5) - 1)) }
theorem p2b_0 (m : Mc) (g : Nat → Int) (b1 b2 : Int) : endsAt [0, 1] (Ly.run cx3 3000 [] (sP m g 43 b1 b2)) = some (T [], .int .i64 0, 5, hPm (z2b_0 m) (memL g)) := by kernel_rfl
@[simp] def z2c_0 (m : Mc) : Mc := { m with fp := par ((m.r5 + 1) % 256), fs := decide (128 ≤ (m.r5 + 1) % 256), fx := decide (15 < m.r5 % 16 + 1), fz := (m.r5 + 1) % 256 == 0, pc := w16 (m.pc + 1), r5 := (m.r5 + 1) % 256 }
theorem p2c_0 (m : Mc) (g : Nat → Int) (b1 b2 : Int) : endsAt [0, 1] (Ly.run cx3 3000 [(21, true)] (sP m g 44 b1 b2)) = some (T [inb m.r5], .int .i64 0, 5, hPm (z2c_0 m) (memL g)) := by kernel_rfl
@[simp] def z2d_0 (m : Mc) : Mc := { m with fp := par ((m.r5 - 1) % 256), fs := decide (128 ≤ (m.r5 - 1) % 256), fx := decide (15 < m.r5 % 16 + 15), fz := (m.r5 - 1) % 256 == 0, pc := w16 (m.pc + 1), r5 := (m.r5 - 1) % 256 }
theorem p2d_0 (m : Mc) (g : Nat → Int) (b1 b2 : Int) : endsAt [0, 1] (Ly.run cx3 3000 [(22, true)] (sP m g 45 b1 b2)) = some (T [inb m.r5], .int .i64 0, 5, hPm (z2d_0 m) (memL g)) := by kernel_rfl
theorem p2e_0 (m : Mc) (g : Nat → Int) (b1 b2 : Int) : endsAt [0, 1] (Ly.run cx3 3000 [] (sP m g 46 b1 b2)) = some (T [], .int .i64 0, 5, hPm { m with pc := w16 (m.pc + 2), r5 := w8 (or16 0 (w16 b1)) } (memL g)) := by kernel_rfl
@[simp] def z2f_0 (m : Mc) : Mc := { m with pc := w16 (m.pc + 1), r7 := xor8 255 m.r7 }
theorem p2f_0 (m : Mc) (g : Nat → Int) (b1 b2 : Int) : endsAt [0, 1] (Ly.run cx3 3000 [] (sP m g 47 b1 b2)) = some (T [], .int .i64 0, 5, hPm (z2f_0 m) (memL g)) := by kernel_rfl
end Go.Proofs.Ytdjmpilegommlaa
namespace Go.Proofs.Ytdjmpilegommlaa
open Go Go.Ly Go.RowKit
end Go.Proofs.Ytdjmpilegommlaa
namespace Go.Proofs.Ytdjmpilegommlaa
open Go Go.Ly Go.RowKit
theorem p31_0 (m : Mc) (g : Nat → Int) (b1 b2 : Int) : endsAt [0, 1] (Ly.run cx3 3000 [] (sP m g 49 b1 b2)) = some (T [], .int .i64 0, 5, hPm { m with pc := w16 (m.pc + 3), sp := or16 (w16 (or16 0 (w16 b2) * 256)) (w16 b1) } (memL g)) := by kernel_rfl
theorem p32_0 (m : Mc) (g : Nat → Int) (b1 b2 : Int) : endsAt [0, 1] (Ly.run cx3 3000 [(32, true), (0, true)] (sP m g 50 b1 b2)) = some (T [(true && lt16 (or16 (w16 (or16 0 (w16 b2) * 256)) (w16 b1))), bl (ix (or16 (w16 (or16 0 (w16 b2) * 256)) (w16 b1)))], .int .i64 0, 5, hPm { m with pc := w16 (m.pc + 3) } (M1 g (ix (or16 (w16 (or16 0 (w16 b2) * 256)) (w16 b1))) (m.r7))) := by kernel_rfl
@[simp] def z33_0 (m : Mc) : Mc := { m with pc := w16 (m.pc + 1), sp := w16 (m.sp + 1) }
theorem p33_0 (m : Mc) (g : Nat → Int) (b1 b2 : Int) : endsAt [0, 1] (Ly.run cx3 3000 [] (sP m g 51 b1 b2)) = some (T [], .int .i64 0, 5, hPm (z33_0 m) (memL g)) := by kernel_rfl
@[simp] def z34_0 (m : Mc) (g : Nat → Int) : Mc := { m with fp := par ((g (ix (or16 (w16 (w16 m.r4 * 256)) (w16 m.r5))) + 1) % 256), fs := decide (128 ≤ (g (ix (or16 (w16 (w16 m.r4 * 256)) (w16 m.r5))) + 1) % 256), fx := decide (15 < g (ix (or16 (w16 (w16 m.r4 * 256)) (w16 m.r5))) % 16 + 1), fz := (g (ix (or16 (w16 (w16 m.r4 * 256)) (w16 m.r5))) + 1) % 256 == 0, pc := w16 (m.pc + 1) }
theorem p34_0 (m : Mc) (g : Nat → Int) (b1 b2 : Int) : endsAt [0, 1] (Ly.run cx3 3000 [(31, true), (0, true), (0, true), (0, true)] (sP m g 52 b1 b2)) = some (T [(true && lt16 (or16 (w16 (w16 m.r4 * 256)) (w16 m.r5))), bl (ix (or16 (w16 (w16 m.r4 * 256)) (w16 m.r5))), inb (g (ix (or16 (w16 (w16 m.r4 * 256)) (w16 m.r5)))), bl (ix (or16 (w16 (w16 m.r4 * 256)) (w16 m.r5)))], .int .i64 0, 5, hPm (z34_0 m g) (M1 g (ix (or16 (w16 (w16 m.r4 * 256)) (w16 m.r5))) ((g (ix (or16 (w16 (w16 m.r4 * 256)) (w16 m.r5))) + 1) % 256))) := by kernel_rfl
@[simp] def z35_0 (m : Mc) (g : Nat → Int) : Mc := { m with fp := par ((g (ix (or16 (w16 (w16 m.r4 * 256)) (w16 m.r5))) - 1) % 256), fs := decide (128 ≤ (g (ix (or16 (w16 (w16 m.r4 * 256)) (w16 m.r5))) - 1) % 256), fx := decide (15 < g (ix (or16 (w16 (w16 m.r4 * 256)) (w16 m.r5))) % 16 + 15), fz := (g (ix (or16 (w16 (w16 m.r4 * 256)) (w16 m.r5))) - 1) % 256 == 0, pc := w16 (m.pc + 1) }
theorem p35_0 (m : Mc) (g : Nat → Int) (b1 b2 : Int) : endsAt [0, 1] (Ly.run cx3 3000 [(32, true), (0, true), (0, true), (0, true)] (sP m g 53 b1 b2)) = some (T [(true && lt16 (or16 (w16 (w16 m.r4 * 256)) (w16 m.r5))), bl (ix (or16 (w16 (w16 m.r4 * 256)) (w16 m.r5))), inb (g (ix (or16 (w16 (w16 m.r4 * 256)) (w16 m.r5)))), bl (ix (or16 (w16 (w16 m.r4 * 256)) (w16 m.r5)))], .int .i64 0, 5, hPm (z35_0 m g) (M1 g (ix (or16 (w16 (w16 m.r4 * 256)) (w16 m.r5))) ((g (ix (or16 (w16 (w16 m.r4 * 256)) (w16 m.r5))) - 1) % 256))) := by kernel_rfl
theorem p36_0 (m : Mc) (g : Nat → Int) (b1 b2 : Int) : endsAt [0, 1] (Ly.run cx3 3000 [(36, true), (0, true)] (sP m g 54 b1 b2)) = some (T [(true && lt16 (or16 (w16 (w16 m.r4 * 256)) (w16 m.r5))), bl (ix (or16 (w16 (w16 m.r4 * 256)) (w16 m.r5)))], .int .i64 0, 5, hPm { m with pc := w16 (m.pc + 2) } (M1 g (ix (or16 (w16 (w16 m.r4 * 256)) (w16 m.r5))) (w8 (or16 0 (w16 b1))))) := by kernel_rfl
@[simp] def z37_0 (m : Mc) : Mc := { m with fc := true, pc := w16 (m.pc + 1) }
theorem p37_0 (m : Mc) (g : Nat → Int) (b1 b2 : Int) : endsAt [0, 1] (Ly.run cx3 3000 [] (sP m g 55 b1 b2)) = some (T [], .int .i64 0, 5, hPm (z37_0 m) (memL g)) := by kernel_rfl
@[simp] def z39_0 (m : Mc) : Mc := { m with fc := decide (65535 < or16 (w16 (w16 m.r4 * 256)) (w16 m.r5) + m.sp), pc := w16 (m.pc + 1), r4 := w8 (((or16 (w16 (w16 m.r4 * 256)) (w16 m.r5) + m.sp) % 65536).fdiv 256), r5 := w8 ((or16 (w16 (w16 m.r4 * 256)) (w16 m.r5) + m.sp) % 65536) }
theorem p39_0 (m : Mc) (g : Nat → Int) (b1 b2 : Int) : endsAt [0, 1] (Ly.run cx3 3000 [(34, true)] (sP m g 57 b1 b2)) = some (T [true && decide (or16 (w16 (w16 m.r4 * 256)) (w16 m.r5) ≤ 65535) && (decide (0 ≤ m.sp) && decide (m.sp ≤ 65535))], .int .i64 0, 5, hPm (z39_0 m) (memL g)) := by kernel_rfl
theorem p3a_0 (m : Mc) (g : Nat → Int) (b1 b2 : Int) : endsAt [0, 1] (Ly.run cx3 3000 [(32, true), (0, true)] (sP m g 58 b1 b2)) = some (T [(true && lt16 (or16 (w16 (or16 0 (w16 b2) * 256)) (w16 b1))), bl (ix (or16 (w16 (or16 0 (w16 b2) * 256)) (w16 b1)))], .int .i64 0, 5, hPm { m with pc := w16 (m.pc + 3), r7 := g (ix (or16 (w16 (or16 0 (w16 b2) * 256)) (w16 b1))) } (memL g)) := by kernel_rfl
@[simp] def z3b_0 (m : Mc) : Mc := { m with pc := w16 (m.pc + 1), sp := w16 (m.sp - 1) }
theorem p3b_0 (m : Mc) (g : Nat → Int) (b1 b2 : Int) : endsAt [0, 1] (Ly.run cx3 3000 [] (sP m g 59 b1 b2)) = some (T [], .int .i64 0, 5, hPm (z3b_0 m) (memL g)) := by kernel_rfl
@[simp] def z3c_0 (m : Mc) : Mc := { m with fp := par ((m.r7 + 1) % 256), fs := decide (128 ≤ (m.r7 + 1) % 256), fx := decide (15 < m.r7 % 16 + 1), fz := (m.r7 + 1) % 256 == 0, pc := w16 (m.pc + 1), r7 := (m.r7 + 1) % 256 }
theorem p3c_0 (m : Mc) (g : Nat → Int) (b1 b2 : Int) : endsAt [0, 1] (Ly.run cx3 3000 [(21, true)] (sP m g 60 b1 b2)) = some (T [inb m.r7], .int .i64 0, 5, hPm (z3c_0 m) (memL g)) := by kernel_rfl
@[simp] def z3d_0 (m : Mc) : Mc := { m with fp := par ((m.r7 - 1) % 256), fs := decide (128 ≤ (m.r7 - 1) % 256), fx := decide (15 < m.r7 % 16 + 15), fz := (m.r7 - 1) % 256 == 0, pc := w16 (m.pc + 1), r7 := (m.r7 - 1) % 256 }
theorem p3d_0 (m : Mc) (g : Nat → Int) (b1 b2 : Int) : endsAt [0, 1] (Ly.run cx3 3000 [(22, true)] (sP m g 61 b1 b2)) = some (T [inb m.r7], .int .i64 0, 5, hPm (z3d_0 m) (memL g)) := by kernel_rfl
theorem p3e_0 (m : Mc) (g : Nat → Int) (b1 b2 : Int) : endsAt [0, 1] (Ly.run cx3 3000 [] (sP m g 62 b1 b2)) = some (T [], .int .i64 0, 5, hPm { m with pc := w16 (m.pc + 2), r7 := w8 (or16 0 (w16 b1)) } (memL g)) := by kernel_rfl
@[simp] def z3f_0 (m : Mc) : Mc := { m with fc := !m.fc, pc := w16 (m.pc + 1) }
theorem p3f_0 (m : Mc) (g : Nat → Int) (b1 b2 : Int) : endsAt [0, 1] (Ly.run cx3 3000 [] (sP m g 63 b1 b2)) = some (T [], .int .i64 0, 5, hPm (z3f_0 m) (memL g)) := by kernel_rfl
end Go.Proofs.Ytdjmpilegommlaa
namespace Go.Proofs.Ytdjmpilegommlaa
open Go Go.Ly Go.RowKit
end Go.Proofs.Ytdjmpilegommlaa
namespace Go.Proofs.Ytdjmpilegommlaa
open Go Go.Ly Go.RowKit
theorem p40_0 (m : Mc) (g : Nat → Int) (b1 b2 : Int) : endsAt [0, 1] (Ly.run cx3 3000 [] (sP m g 64 b1 b2)) = some (T [], .int .i64 0, 5, hPm { m with pc := w16 (m.pc + 1) } (memL g)) := by kernel_rfl
@[simp] def z41_0 (m : Mc) : Mc := { m with pc := w16 (m.pc + 1), r0 := m.r1 }
theorem p41_0 (m : Mc) (g : Nat → Int) (b1 b2 : Int) : endsAt [0, 1] (Ly.run cx3 3000 [] (sP m g 65 b1 b2)) = some (T [], .int .i64 0, 5, hPm (z41_0 m) (memL g)) := by kernel_rfl
@[simp] def z42_0 (m : Mc) : Mc := { m with pc := w16 (m.pc + 1), r0 := m.r2 }
theorem p42_0 (m : Mc) (g : Nat → Int) (b1 b2 : Int) : endsAt [0, 1] (Ly.run cx3 3000 [] (sP m g 66 b1 b2)) = some (T [], .int .i64 0, 5, hPm (z42_0 m) (memL g)) := by kernel_rfl
@[simp] def z43_0 (m : Mc) : Mc := { m with pc := w16 (m.pc + 1), r0 := m.r3 }
theorem p43_0 (m : Mc) (g : Nat → Int) (b1 b2 : Int) : endsAt [0, 1] (Ly.run cx3 3000 [] (sP m g 67 b1 b2)) = some (T [], .int .i64 0, 5, hPm (z43_0 m) (memL g)) := by kernel_rfl
@[simp] def z44_0 (m : Mc) : Mc := { m with pc := w16 (m.pc + 1), r0 := m.r4 }
theorem p44_0 (m : Mc) (g : Nat → Int) (b1 b2 : Int) : endsAt [0, 1] (Ly.run cx3 3000 [] (sP m g 68 b1 b2)) = some (T [], .int .i64 0, 5, hPm (z44_0 m) (memL g)) := by kernel_rfl
@[simp] def z45_0 (m : Mc) : Mc := { m with pc := w16 (m.pc + 1), r0 := m.r5 }
theorem p45_0 (m : Mc) (g : Nat → Int) (b1 b2 : Int) : endsAt [0, 1] (Ly.run cx3 3000 [] (sP m g 69 b1 b2)) = some (T [], .int .i64 0, 5, hPm (z45_0 m) (memL g)) := by kernel_rfl
@[simp] def z46_0 (m : Mc) (g : Nat → Int) : Mc := { m with pc := w16 (m.pc + 1), r0 := g (ix (or16 (w16 (w16 m.r4 * 256)) (w16 m.r5))) }
theorem p46_0 (m : Mc) (g : Nat → Int) (b1 b2 : Int) : endsAt [0, 1] (Ly.run cx3 3000 [(28, true), (0, true)] (sP m g 70 b1 b2)) = some (T [(true && lt16 (or16 (w16 (w16 m.r4 * 256)) (w16 m.r5))), bl (ix (or16 (w16 (w16 m.r4 * 256)) (w16 m.r5)))], .int .i64 0, 5, hPm (z46_0 m g) (memL g)) := by kernel_rfl
@[simp] def z47_0 (m : Mc) : Mc := { m with pc := w16 (m.pc + 1), r0 := m.r7 }
theorem p47_0 (m : Mc) (g : Nat → Int) (b1 b2 : Int) : endsAt [0, 1] (Ly.run cx3 3000 [] (sP m g 71 b1 b2)) = some (T [], .int .i64 0, 5, hPm (z47_0 m) (memL g)) := by kernel_rfl
@[simp] def z48_0 (m : Mc) : Mc := { m with pc := w16 (m.pc + 1), r1 := m.r0 }
theorem p48_0 (m : Mc) (g : Nat → Int) (b1 b2 : Int) : endsAt [0, 1] (Ly.run cx3 3000 [] (sP m g 72 b1 b2)) = some (T [], .int .i64 0, 5, hPm (z48_0 m) (memL g)) := by kernel_rfl
theorem p49_0 (m : Mc) (g : Nat → Int) (b1 b2 : Int) : endsAt [0, 1] (Ly.run cx3 3000 [] (sP m g 73 b1 b2)) = some (T [], .int .i64 0, 5, hPm { m with pc := w16 (m.pc + 1) } (memL g)) := by kernel_rfl
@[simp] def z4a_0 (m : Mc) : Mc := { m with pc := w16 (m.pc + 1), r1 := m.r2 }
theorem p4a_0 (m : Mc) (g : Nat → Int) (b1 b2 : Int) : endsAt [0, 1] (Ly.run cx3 3000 [] (sP m g 74 b1 b2)) = some (T [], .int .i64 0, 5, hPm (z4a_0 m) (memL g)) := by kernel_rfl
@[simp] def z4b_0 (m : Mc) : Mc := { m with pc := w16 (m.pc + 1), r1 := m.r3 }
theorem p4b_0 (m : Mc) (g : Nat → Int) (b1 b2 : Int) : endsAt [0, 1] (Ly.run cx3 3000 [] (sP m g 75 b1 b2)) = some (T [], .int .i64 0, 5, hPm (z4b_0 m) (memL g)) := by kernel_rfl
@[simp] def z4c_0 (m : Mc) : Mc := { m with pc := w16 (m.pc + 1), r1 := m.r4 }
theorem p4c_0 (m : Mc) (g : Nat → Int) (b1 b2 : Int) : endsAt [0, 1] (Ly.run cx3 3000 [] (sP m g 76 b1 b2)) = some (T [], .int .i64 0, 5, hPm (z4c_0 m) (memL g)) := by kernel_rfl
@[simp] def z4d_0 (m : Mc) : Mc := { m with pc := w16 (m.pc + 1), r1 := m.r5 }
theorem p4d_0 (m : Mc) (g : Nat → Int) (b1 b2 : Int) : endsAt [0, 1] (Ly.run cx3 3000 [] (sP m g 77 b1 b2)) = some (T [], .int .i64 0, 5, hPm (z4d_0 m) (memL g)) := by kernel_rfl
@[simp] def z4e_0 (m : Mc) (g : Nat → Int) : Mc := { m with pc := w16 (m.pc + 1), r1 := g (ix (or16 (w16 (w16 m.r4 * 256)) (w16 m.r5))) }
theorem p4e_0 (m : Mc) (g : Nat → Int) (b1 b2 : Int) : endsAt [0, 1] (Ly.run cx3 3000 [(28, true), (0, true)] (sP m g 78 b1 b2)) = some (T [(true && lt16 (or16 (w16 (w16 m.r4 * 256)) (w16 m.r5))), bl (ix (or16 (w16 (w16 m.r4 * 256)) (w16 m.r5)))], .int .i64 0, 5, hPm (z4e_0 m g) (memL g)) := by kernel_rfl
@[simp] def z4f_0 (m : Mc) : Mc := { m with pc := w16 (m.pc + 1), r1 := m.r7 }
theorem p4f_0 (m : Mc) (g : Nat → Int) (b1 b2 : Int) : endsAt [0, 1] (Ly.run cx3 3000 [] (sP m g 79 b1 b2)) = some (T [], .int .i64 0, 5, hPm (z4f_0 m) (memL g)) := by kernel_rfl
end Go.Proofs.Ytdjmpilegommlaa
namespace Go.Proofs.Ytdjmpilegommlaa
open Go Go.Ly Go.RowKit
end Go.Proofs.Ytdjmpilegommlaa
namespace Go.Proofs.Ytdjmpilegommlaa
open Go Go.Ly Go.RowKit
@[simp] def z50_0 (m : Mc) : Mc := { m with pc := w16 (m.pc + 1), r2 := m.r0 }
theorem p50_0 (m : Mc) (g : Nat → Int) (b1 b2 : Int) : endsAt [0, 1] (Ly.run cx3 3000 [] (sP m g 80 b1 b2)) = some (T [], .int .i64 0, 5, hPm (z50_0 m) (memL g)) := by kernel_rfl
@[simp] def z51_0 (m : Mc) : Mc := { m with pc := w16 (m.pc + 1), r2 := m.r1 }
theorem p51_0 (m : Mc) (g : Nat → Int) (b1 b2 : Int) : endsAt [0, 1] (Ly.run cx3 3000 [] (sP m g 81 b1 b2)) = some (T [], .int .i64 0, 5, hPm (z51_0 m) (memL g)) := by kernel_rfl
theorem p52_0 (m : Mc) (g : Nat → Int) (b1 b2 : Int) : endsAt [0, 1] (Ly.run cx3 3000 [] (sP m g 82 b1 b2)) = some (T [], .int .i64 0, 5, hPm { m with pc := w16 (m.pc + 1) } (memL g)) := by kernel_rfl
@[simp] def z53_0 (m : Mc) : Mc := { m with pc := w16 (m.pc + 1), r2 := m.r3 }
theorem p53_0 (m : Mc) (g : Nat → Int) (b1 b2 : Int) : endsAt [0, 1] (Ly.run cx3 3000 [] (sP m g 83 b1 b2)) = some (T [], .int .i64 0, 5, hPm (z53_0 m) (memL g)) := by kernel_rfl
@[simp] def z54_0 (m : Mc) : Mc := { m with pc := w16 (m.pc + 1), r2 := m.r4 }
theorem p54_0 (m : Mc) (g : Nat → Int) (b1 b2 : Int) : endsAt [0, 1] (Ly.run cx3 3000 [] (sP m g 84 b1 b2)) = some (T [], .int .i64 0, 5, hPm (z54_0 m) (memL g)) := by kernel_rfl
@[simp] def z55_0 (m : Mc) : Mc := { m with pc := w16 (m.pc + 1), r2 := m.r5 }
theorem p55_0 (m : Mc) (g : Nat → Int) (b1 b2 : Int) : endsAt [0, 1] (Ly.run cx3 3000 [] (sP m g 85 b1 b2)) = some (T [], .int .i64 0, 5, hPm (z55_0 m) (memL g)) := by kernel_rfl
@[simp] def z56_0 (m : Mc) (g : Nat → Int) : Mc := { m with pc := w16 (m.pc + 1), r2 := g (ix (or16 (w16 (w16 m.r4 * 256)) (w16 m.r5))) }
theorem p56_0 (m : Mc) (g : Nat → Int) (b1 b2 : Int) : endsAt [0, 1] (Ly.run cx3 3000 [(28, true), (0, true)] (sP m g 86 b1 b2)) = some (T [(true && lt16 (or16 (w16 (w16 m.r4 * 256)) (w16 m.r5))), bl (ix (or16 (w16 (w16 m.r4 * 256)) (w16 m.r5)))], .int .i64 0, 5, hPm (z56_0 m g) (memL g)) := by kernel_rfl
@[simp] def z57_0 (m : Mc) : Mc := { m with pc := w16 (m.pc + 1), r2 := m.r7 }
theorem p57_0 (m : Mc) (g : Nat → Int) (b1 b2 : Int) : endsAt [0, 1] (Ly.run cx3 3000 [] (sP m g 87 b1 b2)) = some (T [], .int .i64 0, 5, hPm (z57_0 m) (memL g)) := by kernel_rfl
@[simp] def z58_0 (m : Mc) : Mc := { m with pc := w16 (m.pc + 1), r3 := m.r0 }
theorem p58_0 (m : Mc) (g : Nat → Int) (b1 b2 : Int) : endsAt [0, 1] (Ly.run cx3 3000 [] (sP m g 88 b1 b2)) = some (T [], .int .i64 0, 5, hPm (z58_0 m) (memL g)) := by kernel_rfl
@[simp] def z59_0 (m : Mc) : Mc := { m with pc := w16 (m.pc + 1), r3 := m.r1 }
theorem p59_0 (m : Mc) (g : Nat → Int) (b1 b2 : Int) : endsAt [0, 1] (Ly.run cx3 3000 [] (sP m g 89 b1 b2)) = some (T [], .int .i64 0, 5, hPm (z59_0 m) (memL g)) := by kernel_rfl
@[simp] def z5a_0 (m : Mc) : Mc := { m with pc := w16 (m.pc + 1), r3 := m.r2 }
theorem p5a_0 (m : Mc) (g : Nat → Int) (b1 b2 : Int) : endsAt [0, 1] (Ly.run cx3 3000 [] (sP m g 90 b1 b2)) = some (T [], .int .i64 0, 5, hPm (z5a_0 m) (memL g)) := by kernel_rfl
theorem p5b_0 (m : Mc) (g : Nat → Int) (b1 b2 : Int) : endsAt [0, 1] (Ly.run cx3 3000 [] (sP m g 91 b1 b2)) = some (T [], .int .i64 0, 5, hPm { m with pc := w16 (m.pc + 1) } (memL g)) := by kernel_rfl
@[simp] def z5c_0 (m : Mc) : Mc := { m with pc := w16 (m.pc + 1), r3 := m.r4 }
theorem p5c_0 (m : Mc) (g : Nat → Int) (b1 b2 : Int) : endsAt [0, 1] (Ly.run cx3 3000 [] (sP m g 92 b1 b2)) = some (T [], .int .i64 0, 5, hPm (z5c_0 m) (memL g)) := by kernel_rfl
@[simp] def z5d_0 (m : Mc) : Mc := { m with pc := w16 (m.pc + 1), r3 := m.r5 }
theorem p5d_0 (m : Mc) (g : Nat → Int) (b1 b2 : Int) : endsAt [0, 1] (Ly.run cx3 3000 [] (sP m g 93 b1 b2)) = some (T [], .int .i64 0, 5, hPm (z5d_0 m) (memL g)) := by kernel_rfl
@[simp] def z5e_0 (m : Mc) (g : Nat → Int) : Mc := { m with pc := w16 (m.pc + 1), r3 := g (ix (or16 (w16 (w16 m.r4 * 256)) (w16 m.r5))) }
theorem p5e_0 (m : Mc) (g : Nat → Int) (b1 b2 : Int) : endsAt [0, 1] (Ly.run cx3 3000 [(28, true), (0, true)] (sP m g 94 b1 b2)) = some (T [(true && lt16 (or16 (w16 (w16 m.r4 * 256)) (w16 m.r5))), bl (ix (or16 (w16 (w16 m.r4 * 256)) (w16 m.r5)))], .int .i64 0, 5, hPm (z5e_0 m g) (memL g)) := by kernel_rfl
@[simp] def z5f_0 (m : Mc) : Mc := { m with pc := w16 (m.pc + 1), r3 := m.r7 }
theorem p5f_0 (m : Mc) (g : Nat → Int) (b1 b2 : Int) : endsAt [0, 1] (Ly.run cx3 3000 [] (sP m g 95 b1 b2)) = some (T [], .int .i64 0, 5, hPm (z5f_0 m) (memL g)) := by kernel_rfl
end Go.Proofs.Ytdjmpilegommlaa
namespace Go.Proofs.Ytdjmpilegommlaa
open Go Go.Ly Go.RowKit
end Go.Proofs.Ytdjmpilegommlaa
namespace Go.Proofs.Ytdjmpilegommlaa
open Go Go.Ly Go.RowKit
@[simp] def z60_0 (m : Mc) : Mc := { m with pc := w16 (m.pc + 1), r4 := m.r0 }
theorem p60_0 (m : Mc) (g : Nat → Int) (b1 b2 : Int) : endsAt [0, 1] (Ly.run cx3 3000 [] (sP m g 96 b1 b2)) = some (T [], .int .i64 0, 5, hPm (z60_0 m) (memL g)) := by kernel_rfl
@[simp] def z61_0 (m : Mc) : Mc := { m with pc := w16 (m.pc + 1), r4 := m.r1 }
theorem p61_0 (m : Mc) (g : Nat → Int) (b1 b2 : Int) : endsAt [0, 1] (Ly.run cx3 3000 [] (sP m g 97 b1 b2)) = some (T [], .int .i64 0, 5, hPm (z61_0 m) (memL g)) := by kernel_rfl
@[simp] def z62_0 (m : Mc) : Mc := { m with pc := w16 (m.pc + 1), r4 := m.r2 }
theorem p62_0 (m : Mc) (g : Nat → Int) (b1 b2 : Int) : endsAt [0, 1] (Ly.run cx3 3000 [] (sP m g 98 b1 b2)) = some (T [], .int .i64 0, 5, hPm (z62_0 m) (memL g)) := by kernel_rfl
@[simp] def z63_0 (m : Mc) : Mc := { m with pc := w16 (m.pc + 1), r4 := m.r3 }
theorem p63_0 (m : Mc) (g : Nat → Int) (b1 b2 : Int) : endsAt [0, 1] (Ly.run cx3 3000 [] (sP m g 99 b1 b2)) = some (T [], .int .i64 0, 5, hPm (z63_0 m) (memL g)) := by kernel_rfl
theorem p64_0 (m : Mc) (g : Nat → Int) (b1 b2 : Int) : endsAt [0, 1] (Ly.run cx3 3000 [] (sP m g 100 b1 b2)) = some (T [], .int .i64 0, 5, hPm { m with pc := w16 (m.pc + 1) } (memL g)) := by kernel_rfl
@[simp] def z65_0 (m : Mc) : Mc := { m with pc := w16 (m.pc + 1), r4 := m.r5 }
theorem p65_0 (m : Mc) (g : Nat → Int) (b1 b2 : Int) : endsAt [0, 1] (Ly.run cx3 3000 [] (sP m g 101 b1 b2)) = some (T [], .int .i64 0, 5, hPm (z65_0 m) (memL g)) := by kernel_rfl
@[simp] def z66_0 (m : Mc) (g : Nat → Int) : Mc := { m with pc := w16 (m.pc + 1), r4 := g (ix (or16 (w16 (w16 m.r4 * 256)) (w16 m.r5))) }
theorem p66_0 (m : Mc) (g : Nat → Int) (b1 b2 : Int) : endsAt [0, 1] (Ly.run cx3 3000 [(28, true), (0, true)] (sP m g 102 b1 b2)) = some (T [(true && lt16 (or16 (w16 (w16 m.r4 * 256)) (w16 m.r5))), bl (ix (or16 (w16 (w16 m.r4 * 256)) (w16 m.r5)))], .int .i64 0, 5, hPm (z66_0 m g) (memL g)) := by kernel_rfl
@[simp] def z67_0 (m : Mc) : Mc := { m with pc := w16 (m.pc + 1), r4 := m.r7 }
theorem p67_0 (m : Mc) (g : Nat → Int) (b1 b2 : Int) : endsAt [0, 1] (Ly.run cx3 3000 [] (sP m g 103 b1 b2)) = some (T [], .int .i64 0, 5, hPm (z67_0 m) (memL g)) := by kernel_rfl
@[simp] def z68_0 (m : Mc) : Mc := { m with pc := w16 (m.pc + 1), r5 := m.r0 }
theorem p68_0 (m : Mc) (g : Nat → Int) (b1 b2 : Int) : endsAt [0, 1] (Ly.run cx3 3000 [] (sP m g 104 b1 b2)) = some (T [], .int .i64 0, 5, hPm (z68_0 m) (memL g)) := by kernel_rfl
@[simp] def z69_0 (m : Mc) : Mc := { m with pc := w16 (m.pc + 1), r5 := m.r1 }
theorem p69_0 (m : Mc) (g : Nat → Int) (b1 b2 : Int) : endsAt [0, 1] (Ly.run cx3 3000 [] (sP m g 105 b1 b2)) = some (T [], .int .i64 0, 5, hPm (z69_0 m) (memL g)) := by kernel_rfl
@[simp] def z6a_0 (m : Mc) : Mc := { m with pc := w16 (m.pc + 1), r5 := m.r2 }
theorem p6a_0 (m : Mc) (g : Nat → Int) (b1 b2 : Int) : endsAt [0, 1] (Ly.run cx3 3000 [] (sP m g 106 b1 b2)) = some (T [], .int .i64 0, 5, hPm (z6a_0 m) (memL g)) := by kernel_rfl
@[simp] def z6b_0 (m : Mc) : Mc := { m with pc := w16 (m.pc + 1), r5 := m.r3 }
theorem p6b_0 (m : Mc) (g : Nat → Int) (b1 b2 : Int) : endsAt [0, 1] (Ly.run cx3 3000 [] (sP m g 107 b1 b2)) = some (T [], .int .i64 0, 5, hPm (z6b_0 m) (memL g)) := by kernel_rfl
@[simp] def z6c_0 (m : Mc) : Mc := { m with pc := w16 (m.pc + 1), r5 := m.r4 }
theorem p6c_0 (m : Mc) (g : Nat → Int) (b1 b2 : Int) : endsAt [0, 1] (Ly.run cx3 3000 [] (sP m g 108 b1 b2)) = some (T [], .int .i64 0, 5, hPm (z6c_0 m) (memL g)) := by kernel_rfl
theorem p6d_0 (m : Mc) (g : Nat → Int) (b1 b2 : Int) : endsAt [0, 1] (Ly.run cx3 3000 [] (sP m g 109 b1 b2)) = some (T [], .int .i64 0, 5, hPm { m with pc := w16 (m.pc + 1) } (memL g)) := by kernel_rfl
@[simp] def z6e_0 (m : Mc) (g : Nat → Int) : Mc := { m with pc := w16 (m.pc + 1), r5 := g (ix (or16 (w16 (w16 m.r4 * 256)) (w16 m.r5))) }
theorem p6e_0 (m : Mc) (g : Nat → Int) (b1 b2 : Int) : endsAt [0, 1] (Ly.run cx3 3000 [(28, true), (0, true)] (sP m g 110 b1 b2)) = some (T [(true && lt16 (or16 (w16 (w16 m.r4 * 256)) (w16 m.r5))), bl (ix (or16 (w16 (w16 m.r4 * 256)) (w16 m.r5)))], .int .i64 0, 5, hPm (z6e_0 m g) (memL g)) := by kernel_rfl
@[simp] def z6f_0 (m : Mc) : Mc := { m with pc := w16 (m.pc + 1), r5 := m.r7 }
theorem p6f_0 (m : Mc) (g : Nat → Int) (b1 b2 : Int) : endsAt [0, 1] (Ly.run cx3 3000 [] (sP m g 111 b1 b2)) = some (T [], .int .i64 0, 5, hPm (z6f_0 m) (memL g)) := by kernel_rfl
end Go.Proofs.Ytdjmpilegommlaa
namespace Go.Proofs.Ytdjmpilegommlaa
open Go Go.Ly Go.RowKit
end Go.Proofs.Ytdjmpilegommlaa
namespace Go.Proofs.Ytdjmpilegommlaa
open Go Go.Ly Go.RowKit
theorem p70_0 (m : Mc) (g : Nat → Int) (b1 b2 : Int) : endsAt [0, 1] (Ly.run cx3 3000 [(26, true), (2, true)] (sP m g 112 b1 b2)) = some (T [(true && lt16 (or16 (w16 (w16 m.r4 * 256)) (w16 m.r5))), bl (ix (or16 (w16 (w16 m.r4 * 256)) (w16 m.r5)))], .int .i64 0, 5, hPm { m with pc := w16 (m.pc + 1) } (M1 g (ix (or16 (w16 (w16 m.r4 * 256)) (w16 m.r5))) (m.r0))) := by kernel_rfl
theorem p71_0 (m : Mc) (g : Nat → Int) (b1 b2 : Int) : endsAt [0, 1] (Ly.run cx3 3000 [(26, true), (2, true)] (sP m g 113 b1 b2)) = some (T [(true && lt16 (or16 (w16 (w16 m.r4 * 256)) (w16 m.r5))), bl (ix (or16 (w16 (w16 m.r4 * 256)) (w16 m.r5)))], .int .i64 0, 5, hPm { m with pc := w16 (m.pc + 1) } (M1 g (ix (or16 (w16 (w16 m.r4 * 256)) (w16 m.r5))) (m.r1))) := by kernel_rfl
theorem p72_0 (m : Mc) (g : Nat → Int) (b1 b2 : Int) : endsAt [0, 1] (Ly.run cx3 3000 [(26, true), (2, true)] (sP m g 114 b1 b2)) = some (T [(true && lt16 (or16 (w16 (w16 m.r4 * 256)) (w16 m.r5))), bl (ix (or16 (w16 (w16 m.r4 * 256)) (w16 m.r5)))], .int .i64 0, 5, hPm { m with pc := w16 (m.pc + 1) } (M1 g (ix (or16 (w16 (w16 m.r4 * 256)) (w16 m.r5))) (m.r2))) := by kernel_rfl
theorem p73_0 (m : Mc) (g : Nat → Int) (b1 b2 : Int) : endsAt [0, 1] (Ly.run cx3 3000 [(26, true), (2, true)] (sP m g 115 b1 b2)) = some (T [(true && lt16 (or16 (w16 (w16 m.r4 * 256)) (w16 m.r5))), bl (ix (or16 (w16 (w16 m.r4 * 256)) (w16 m.r5)))], .int .i64 0, 5, hPm { m with pc := w16 (m.pc + 1) } (M1 g (ix (or16 (w16 (w16 m.r4 * 256)) (w16 m.r5))) (m.r3))) := by kernel_rfl
theorem p74_0 (m : Mc) (g : Nat → Int) (b1 b2 : Int) : endsAt [0, 1] (Ly.run cx3 3000 [(26, true), (2, true)] (sP m g 116 b1 b2)) = some (T [(true && lt16 (or16 (w16 (w16 m.r4 * 256)) (w16 m.r5))), bl (ix (or16 (w16 (w16 m.r4 * 256)) (w16 m.r5)))], .int .i64 0, 5, hPm { m with pc := w16 (m.pc + 1) } (M1 g (ix (or16 (w16 (w16 m.r4 * 256)) (w16 m.r5))) (m.r4))) := by kernel_rfl
theorem p75_0 (m : Mc) (g : Nat → Int) (b1 b2 : Int) : endsAt [0, 1] (Ly.run cx3 3000 [(26, true), (2, true)] (sP m g 117 b1 b2)) = some (T [(true && lt16 (or16 (w16 (w16 m.r4 * 256)) (w16 m.r5))), bl (ix (or16 (w16 (w16 m.r4 * 256)) (w16 m.r5)))], .int .i64 0, 5, hPm { m with pc := w16 (m.pc + 1) } (M1 g (ix (or16 (w16 (w16 m.r4 * 256)) (w16 m.r5))) (m.r5))) := by kernel_rfl
@[simp] def z76_0 (m : Mc) : Mc := { m with halt := true, pc := w16 (m.pc + 1) }
theorem p77_0 (m : Mc) (g : Nat → Int) (b1 b2 : Int) : endsAt [0, 1] (Ly.run cx3 3000 [(26, true), (2, true)] (sP m g 119 b1 b2)) = some (T [(true && lt16 (or16 (w16 (w16 m.r4 * 256)) (w16 m.r5))), bl (ix (or16 (w16 (w16 m.r4 * 256)) (w16 m.r5)))], .int .i64 0, 5, hPm { m with pc := w16 (m.pc + 1) } (M1 g (ix (or16 (w16 (w16 m.r4 * 256)) (w16 m.r5))) (m.r7))) := by kernel_rfl
@[simp] def z78_0 (m : Mc) : Mc := { m with pc := w16 (m.pc + 1), r7 := m.r0 }
theorem p78_0 (m : Mc) (g : Nat → Int) (b1 b2 : Int) : endsAt [0, 1] (Ly.run cx3 3000 [] (sP m g 120 b1 b2)) = some (T [], .int .i64 0, 5, hPm (z78_0 m) (memL g)) := by kernel_rfl
@[simp] def z79_0 (m : Mc) : Mc := { m with pc := w16 (m.pc + 1), r7 := m.r1 }
theorem p79_0 (m : Mc) (g : Nat → Int) (b1 b2 : Int) : endsAt [0, 1] (Ly.run cx3 3000 [] (sP m g 121 b1 b2)) = some (T [], .int .i64 0, 5, hPm (z79_0 m) (memL g)) := by kernel_rfl
@[simp] def z7a_0 (m : Mc) : Mc := { m with pc := w16 (m.pc + 1), r7 := m.r2 }
theorem p7a_0 (m : Mc) (g : Nat → Int) (b1 b2 : Int) : endsAt [0, 1] (Ly.run cx3 3000 [] (sP m g 122 b1 b2)) = some (T [], .int .i64 0, 5, hPm (z7a_0 m) (memL g)) := by kernel_rfl
@[simp] def z7b_0 (m : Mc) : Mc := { m with pc := w16 (m.pc + 1), r7 := m.r3 }
theorem p7b_0 (m : Mc) (g : Nat → Int) (b1 b2 : Int) : endsAt [0, 1] (Ly.run cx3 3000 [] (sP m g 123 b1 b2)) = some (T [], .int .i64 0, 5, hPm (z7b_0 m) (memL g)) := by kernel_rfl
@[simp] def z7c_0 (m : Mc) : Mc := { m with pc := w16 (m.pc + 1), r7 := m.r4 }
theorem p7c_0 (m : Mc) (g : Nat → Int) (b1 b2 : Int) : endsAt [0, 1] (Ly.run cx3 3000 [] (sP m g 124 b1 b2)) = some (T [], .int .i64 0, 5, hPm (z7c_0 m) (memL g)) := by kernel_rfl
@[simp] def z7d_0 (m : Mc) : Mc := { m with pc := w16 (m.pc + 1), r7 := m.r5 }
theorem p7d_0 (m : Mc) (g : Nat → Int) (b1 b2 : Int) : endsAt [0, 1] (Ly.run cx3 3000 [] (sP m g 125 b1 b2)) = some (T [], .int .i64 0, 5, hPm (z7d_0 m) (memL g)) := by kernel_rfl
@[simp] def z7e_0 (m : Mc) (g : Nat → Int) : Mc := { m with pc := w16 (m.pc + 1), r7 := g (ix (or16 (w16 (w16 m.r4 * 256)) (w16 m.r5))) }
theorem p7e_0 (m : Mc) (g : Nat → Int) (b1 b2 : Int) : endsAt [0, 1] (Ly.run cx3 3000 [(28, true), (0, true)] (sP m g 126 b1 b2)) = some (T [(true && lt16 (or16 (w16 (w16 m.r4 * 256)) (w16 m.r5))), bl (ix (or16 (w16 (w16 m.r4 * 256)) (w16 m.r5)))], .int .i64 0, 5, hPm (z7e_0 m g) (memL g)) := by kernel_rfl
theorem p7f_0 (m : Mc) (g : Nat → Int) (b1 b2 : Int) : endsAt [0, 1] (Ly.run cx3 3000 [] (sP m g 127 b1 b2)) = some (T [], .int .i64 0, 5, hPm { m with pc := w16 (m.pc + 1) } (memL g)) := by kernel_rfl
end Go.Proofs.Ytdjmpilegommlaa
namespace Go.Proofs.Ytdjmpilegommlaa
open Go Go.Ly Go.RowKit
end Go.Proofs.Ytdjmpilegommlaa
namespace Go.Proofs.Ytdjmpilegommlaa
open Go Go.Ly Go.RowKit
@[simp] def z80_0 (m : Mc) : Mc := { m with fc := decide (255 < m.r7 + m.r0 + 0), fp := par ((m.r7 + m.r0 + 0) % 256), fs := decide (128 ≤ (m.r7 + m.r0 + 0) % 256), fx := decide (15 < m.r7 % 16 + m.r0 % 16 + 0), fz := (m.r7 + m.r0 + 0) % 256 == 0, pc := w16 (m.pc + 1), r7 := (m.r7 + m.r0 + 0) % 256 }
theorem p80_0 (m : Mc) (g : Nat → Int) (b1 b2 : Int) : endsAt [0, 1] (Ly.run cx3 3000 [(22, true), (5, true)] (sP m g 128 b1 b2)) = some (T [m.fc == true, inb m.r7 && inb m.r0], .int .i64 0, 5, hPm (z80_0 m) (memL g)) := by kernel_rfl
theorem p80_1 (m : Mc) (g : Nat → Int) (b1 b2 : Int) : endsAt [0, 1] (Ly.run cx3 3000 [(22, false), (5, true)] (sP m g 128 b1 b2)) = some ([(m.fc == true, false), (inb m.r7 && inb m.r0, true)], .int .i64 0, 5, hPm (z80_0 m) (memL g)) := by kernel_rfl
@[simp] def z81_0 (m : Mc) : Mc := { m with fc := decide (255 < m.r7 + m.r1 + 0), fp := par ((m.r7 + m.r1 + 0) % 256), fs := decide (128 ≤ (m.r7 + m.r1 + 0) % 256), fx := decide (15 < m.r7 % 16 + m.r1 % 16 + 0), fz := (m.r7 + m.r1 + 0) % 256 == 0, pc := w16 (m.pc + 1), r7 := (m.r7 + m.r1 + 0) % 256 }
theorem p81_0 (m : Mc) (g : Nat → Int) (b1 b2 : Int) : endsAt [0, 1] (Ly.run cx3 3000 [(22, true), (5, true)] (sP m g 129 b1 b2)) = some (T [m.fc == true, inb m.r7 && inb m.r1], .int .i64 0, 5, hPm (z81_0 m) (memL g)) := by kernel_rfl
theorem p81_1 (m : Mc) (g : Nat → Int) (b1 b2 : Int) : endsAt [0, 1] (Ly.run cx3 3000 [(22, false), (5, true)] (sP m g 129 b1 b2)) = some ([(m.fc == true, false), (inb m.r7 && inb m.r1, true)], .int .i64 0, 5, hPm (z81_0 m) (memL g)) := by kernel_rfl
@[simp] def z82_0 (m : Mc) : Mc := { m with fc := decide (255 < m.r7 + m.r2 + 0), fp := par ((m.r7 + m.r2 + 0) % 256), fs := decide (128 ≤ (m.r7 + m.r2 + 0) % 256), fx := decide (15 < m.r7 % 16 + m.r2 % 16 + 0), fz := (m.r7 + m.r2 + 0) % 256 == 0, pc := w16 (m.pc + 1), r7 := (m.r7 + m.r2 + 0) % 256 }
theorem p82_0 (m : Mc) (g : Nat → Int) (b1 b2 : Int) : endsAt [0, 1] (Ly.run cx3 3000 [(22, true), (5, true)] (sP m g 130 b1 b2)) = some (T [m.fc == true, inb m.r7 && inb m.r2], .int .i64 0, 5, hPm (z82_0 m) (memL g)) := by kernel_rfl
theorem p82_1 (m : Mc) (g : Nat → Int) (b1 b2 : Int) : endsAt [0, 1] (Ly.run cx3 3000 [(22, false), (5, true)] (sP m g 130 b1 b2)) = some ([(m.fc == true, false), (inb m.r7 && inb m.r2, true)], .int .i64 0, 5, hPm (z82_0 m) (memL g)) := by kernel_rfl
@[simp] def z83_0 (m : Mc) : Mc := { m with fc := decide (255 < m.r7 + m.r3 + 0), fp := par ((m.r7 + m.r3 + 0) % 256), fs := decide (128 ≤ (m.r7 + m.r3 + 0) % 256), fx := decide (15 < m.r7 % 16 + m.r3 % 16 + 0), fz := (m.r7 + m.r3 + 0) % 256 == 0, pc := w16 (m.pc + 1), r7 := (m.r7 + m.r3 + 0) % 256 }
theorem p83_0 (m : Mc) (g : Nat → Int) (b1 b2 : Int) : endsAt [0, 1] (Ly.run cx3 3000 [(22, true), (5, true)] (sP m g 131 b1 b2)) = some (T [m.fc == true, inb m.r7 && inb m.r3], .int .i64 0, 5, hPm (z83_0 m) (memL g)) := by kernel_rfl
theorem p83_1 (m : Mc) (g : Nat → Int) (b1 b2 : Int) : endsAt [0, 1] (Ly.run cx3 3000 [(22, false), (5, true)] (sP m g 131 b1 b2)) = some ([(m.fc == true, false), (inb m.r7 && inb m.r3, true)], .int .i64 0, 5, hPm (z83_0 m) (memL g)) := by kernel_rfl
@[simp] def z84_0 (m : Mc) : Mc := { m with fc := decide (255 < m.r7 + m.r4 + 0), fp := par ((m.r7 + m.r4 + 0) % 256), fs := decide (128 ≤ (m.r7 + m.r4 + 0) % 256), fx := decide (15 < m.r7 % 16 + m.r4 % 16 + 0), fz := (m.r7 + m.r4 + 0) % 256 == 0, pc := w16 (m.pc + 1), r7 := (m.r7 + m.r4 + 0) % 256 }
theorem p84_0 (m : Mc) (g : Nat → Int) (b1 b2 : Int) : endsAt [0, 1] (Ly.run cx3 3000 [(22, true), (5, true)] (sP m g 132 b1 b2)) = some (T [m.fc == true, inb m.r7 && inb m.r4], .int .i64 0, 5, hPm (z84_0 m) (memL g)) := by kernel_rfl
theorem p84_1 (m : Mc) (g : Nat → Int) (b1 b2 : Int) : endsAt [0, 1] (Ly.run cx3 3000 [(22, false), (5, true)] (sP m g 132 b1 b2)) = some ([(m.fc == true, false), (inb m.r7 && inb m.r4, true)], .int .i64 0, 5, hPm (z84_0 m) (memL g)) := by kernel_rfl
@[simp] def z85_0 (m : Mc) : Mc := { m with fc := decide (255 < m.r7 + m.r5 + 0), fp := par ((m.r7 + m.r5 + 0) % 256), fs := decide (128 ≤ (m.r7 + m.r5 + 0) % 256), fx := decide (15 < m.r7 % 16 + m.r5 % 16 + 0), fz := (m.r7 + m.r5 + 0) % 256 == 0, pc := w16 (m.pc + 1), r7 := (m.r7 + m.r5 + 0) % 256 }
theorem p85_0 (m : Mc) (g : Nat → Int) (b1 b2 : Int) : endsAt [0, 1] (Ly.run cx3 3000 [(22, true), (5, true)] (sP m g 133 b1 b2)) = some (T [m.fc == true, inb m.r7 && inb m.r5], .int .i64 0, 5, hPm (z85_0 m) (memL g)) := by kernel_rfl
theorem p85_1 (m : Mc) (g : Nat → Int) (b1 b2 : Int) : endsAt [0, 1] (Ly.run cx3 3000 [(22, false), (5, true)] (sP m g 133 b1 b2)) = some ([(m.fc == true, false), (inb m.r7 && inb m.r5, true)], .int .i64 0, 5, hPm (z85_0 m) (memL g)) := by kernel_rfl
@[simp] def z86_0 (m : Mc) (g : Nat → Int) : Mc := { m with fc := decide (255 < m.r7 + g (ix (or16 (w16 (w16 m.r4 * 256)) (w16 m.r5))) + 0), fp := par ((m.r7 + g (ix (or16 (w16 (w16 m.r4 * 256)) (w16 m.r5))) + 0) % 256), fs := decide (128 ≤ (m.r7 + g (ix (or16 (w16 (w16 m.r4 * 256)) (w16 m.r5))) + 0) % 256), fx := decide (15 < m.r7 % 16 + g (ix (or16 (w16 (w16 m.r4 * 256)) (w16 m.r5))) % 16 + 0), fz := (m.r7 + g (ix (or16 (w16 (w16 m.r4 * 256)) (w16 m.r5))) + 0) % 256 == 0, pc := w16 (m.pc + 1), r7 := (m.r7 + g (ix (or16 (w16 (w16 m.r4 * 256)) (w16 m.r5))) + 0) % 256 }
theorem p86_0 (m : Mc) (g : Nat → Int) (b1 b2 : Int) : endsAt [0, 1] (Ly.run cx3 3000 [(28, true), (0, true), (13, true), (0, true), (1, true), (5, true)] (sP m g 134 b1 b2)) = some (T [(true && lt16 (or16 (w16 (w16 m.r4 * 256)) (w16 m.r5))), bl (ix (or16 (w16 (w16 m.r4 * 256)) (w16 m.r5))), (true && lt16 (or16 (w16 (w16 m.r4 * 256)) (w16 m.r5))), bl (ix (or16 (w16 (w16 m.r4 * 256)) (w16 m.r5))), m.fc == true, inb m.r7 && inb (g (ix (or16 (w16 (w16 m.r4 * 256)) (w16 m.r5))))], .int .i64 0, 5, hPm (z86_0 m g) (memL g)) := by kernel_rfl
theorem p86_1 (m : Mc) (g : Nat → Int) (b1 b2 : Int) : endsAt [0, 1] (Ly.run cx3 3000 [(28, true), (0, true), (13, true), (0, true), (1, false), (5, true)] (sP m g 134 b1 b2)) = some ([((true && lt16 (or16 (w16 (w16 m.r4 * 256)) (w16 m.r5))), true), (bl (ix (or16 (w16 (w16 m.r4 * 256)) (w16 m.r5))), true), ((true && lt16 (or16 (w16 (w16 m.r4 * 256)) (w16 m.r5))), true), (bl (ix (or16 (w16 (w16 m.r4 * 256)) (w16 m.r5))), true), (m.fc == true, false), (inb m.r7 && inb (g (ix (or16 (w16 (w16 m.r4 * 256)) (w16 m.r5)))), true)], .int .i64 0, 5, hPm (z86_0 m g) (memL g)) := by kernel_rfl
@[simp] def z87_0 (m : Mc) : Mc := { m with fc := decide (255 < m.r7 + m.r7 + 0), fp := par ((m.r7 + m.r7 + 0) % 256), fs := decide (128 ≤ (m.r7 + m.r7 + 0) % 256), fx := decide (15 < m.r7 % 16 + m.r7 % 16 + 0), fz := (m.r7 + m.r7 + 0) % 256 == 0, pc := w16 (m.pc + 1), r7 := (m.r7 + m.r7 + 0) % 256 }
theorem p87_0 (m : Mc) (g : Nat → Int) (b1 b2 : Int) : endsAt [0, 1] (Ly.run cx3 3000 [(22, true), (5, true)] (sP m g 135 b1 b2)) = some (T [m.fc == true, inb m.r7 && inb m.r7], .int .i64 0, 5, hPm (z87_0 m) (memL g)) := by kernel_rfl
theorem p87_1 (m : Mc) (g : Nat → Int) (b1 b2 : Int) : endsAt [0, 1] (Ly.run cx3 3000 [(22, false), (5, true)] (sP m g 135 b1 b2)) = some ([(m.fc == true, false), (inb m.r7 && inb m.r7, true)], .int .i64 0, 5, hPm (z87_0 m) (memL g)) := by kernel_rfl
@[simp] def z88_0 (m : Mc) : Mc := { m with fc := decide (255 < m.r7 + m.r0 + 1), fp := par ((m.r7 + m.r0 + 1) % 256), fs := decide (128 ≤ (m.r7 + m.r0 + 1) % 256), fx := decide (15 < m.r7 % 16 + m.r0 % 16 + 1), fz := (m.r7 + m.r0 + 1) % 256 == 0, pc := w16 (m.pc + 1), r7 := (m.r7 + m.r0 + 1) % 256 }
@[simp] def z88_1 (m : Mc) : Mc := { m with fc := decide (255 < m.r7 + m.r0 + 0), fp := par ((m.r7 + m.r0 + 0) % 256), fs := decide (128 ≤ (m.r7 + m.r0 + 0) % 256), fx := decide (15 < m.r7 % 16 + m.r0 % 16 + 0), fz := (m.r7 + m.r0 + 0) % 256 == 0, pc := w16 (m.pc + 1), r7 := (m.r7 + m.r0 + 0) % 256 }
theorem p88_0 (m : Mc) (g : Nat → Int) (b1 b2 : Int) : endsAt [0, 1] (Ly.run cx3 3000 [(22, true), (5, true)] (sP m g 136 b1 b2)) = some (T [m.fc == true, inb m.r7 && inb m.r0], .int .i64 0, 5, hPm (z88_0 m) (memL g)) := by kernel_rfl
theorem p88_1 (m : Mc) (g : Nat → Int) (b1 b2 : Int) : endsAt [0, 1] (Ly.run cx3 3000 [(22, false), (5, true)] (sP m g 136 b1 b2)) = some ([(m.fc == true, false), (inb m.r7 && inb m.r0, true)], .int .i64 0, 5, hPm (z88_1 m) (memL g)) := by kernel_rfl
@[simp] def z89_0 (m : Mc) : Mc := { m with fc := decide (255 < m.r7 + m.r1 + 1), fp := par ((m.r7 + m.r1 + 1) % 256), fs := decide (128 ≤ (m.r7 + m.r1 + 1) % 256), fx := decide (15 < m.r7 % 16 + m.r1 % 16 + 1), fz := (m.r7 + m.r1 + 1) % 256 == 0, pc := w16 (m.pc + 1), r7 := (m.r7 + m.r1 + 1) % 256 }
@[simp] def z89_1 (m : Mc) : Mc := { m with fc := decide (255 < m.r7 + m.r1 + 0), fp := par ((m.r7 + m.r1 + 0) % 256), fs := decide (128 ≤ (m.r7 + m.r1 + 0) % 256), fx := decide (15 < m.r7 % 16 + m.r1 % 16 + 0), fz := (m.r7 + m.r1 + 0) % 256 == 0, pc := w16 (m.pc + 1), r7 := (m.r7 + m.r1 + 0) % 256 }
theorem p89_0 (m : Mc) (g : Nat → Int) (b1 b2 : Int) : endsAt [0, 1] (Ly.run cx3 3000 [(22, true), (5, true)] (sP m g 137 b1 b2)) = some (T [m.fc == true, inb m.r7 && inb m.r1], .int .i64 0, 5, hPm (z89_0 m) (memL g)) := by kernel_rfl
theorem p89_1 (m : Mc) (g : Nat → Int) (b1 b2 : Int) : endsAt [0, 1] (Ly.run cx3 3000 [(22, false), (5, true)] (sP m g 137 b1 b2)) = some ([(m.fc == true, false), (inb m.r7 && inb m.r1, true)], .int .i64 0, 5, hPm (z89_1 m) (memL g)) := by kernel_rfl
@[simp] def z8a_0 (m : Mc) : Mc := { m with fc := decide (255 < m.r7 + m.r2 + 1), fp := par ((m.r7 + m.r2 + 1) % 256), fs := decide (128 ≤ (m.r7 + m.r2 + 1) % 256), fx := decide (15 < m.r7 % 16 + m.r2 % 16 + 1), fz := (m.r7 + m.r2 + 1) % 256 == 0, pc := w16 (m.pc + 1), r7 := (m.r7 + m.r2 + 1) % 256 }
@[simp] def z8a_1 (m : Mc) : Mc := { m with fc := decide (255 < m.r7 + m.r2 + 0), fp := par ((m.r7 + m.r2 + 0) % 256), fs := decide (128 ≤ (m.r7 + m.r2 + 0) % 256), fx := decide (15 < m.r7 % 16 + m.r2 % 16 + 0), fz := (m.r7 + m.r2 + 0) % 256 == 0, pc := w16 (m.pc + 1), r7 := (m.r7 + m.r2 + 0) % 256 }
theorem p8a_0 (m : Mc) (g : Nat → Int) (b1 b2 : Int) : endsAt [0, 1] (Ly.run cx3 3000 [(22, true), (5, true)] (sP m g 138 b1 b2)) = some (T [m.fc == true, inb m.r7 && inb m.r2], .int .i64 0, 5, hPm (z8a_0 m) (memL g)) := by kernel_rfl
theorem p8a_1 (m : Mc) (g : Nat → Int) (b1 b2 : Int) : endsAt [0, 1] (Ly.run cx3 3000 [(22, false), (5, true)] (sP m g 138 b1 b2)) = some ([(m.fc == true, false), (inb m.r7 && inb m.r2, true)], .int .i64 0, 5, hPm (z8a_1 m) (memL g)) := by kernel_rfl
@[simp] def z8b_0 (m : Mc) : Mc := { m with fc := decide (255 < m.r7 + m.r3 + 1), fp := par ((m.r7 + m.r3 + 1) % 256), fs := decide (128 ≤ (m.r7 + m.r3 + 1) % 256), fx := decide (15 < m.r7 % 16 + m.r3 % 16 + 1), fz := (m.r7 + m.r3 + 1) % 256 == 0, pc := w16 (m.pc + 1), r7 := (m.r7 + m.r3 + 1) % 256 }
@[simp] def z8b_1 (m : Mc) : Mc := { m with fc := decide (255 < m.r7 + m.r3 + 0), fp := par ((m.r7 + m.r3 + 0) % 256), fs := decide (128 ≤ (m.r7 + m.r3 + 0) % 256), fx := decide (15 < m.r7 % 16 + m.r3 % 16 + 0), fz := (m.r7 + m.r3 + 0) % 256 == 0, pc := w16 (m.pc + 1), r7 := (m.r7 + m.r3 + 0) % 256 }
theorem p8b_0 (m : Mc) (g : Nat → Int) (b1 b2 : Int) : endsAt [0, 1] (Ly.run cx3 3000 [(22, true), (5, true)] (sP m g 139 b1 b2)) = some (T [m.fc == true, inb m.r7 && inb m.r3], .int .i64 0, 5, hPm (z8b_0 m) (memL g)) := by kernel_rfl
theorem p8b_1 (m : Mc) (g : Nat → Int) (b1 b2 : Int) : endsAt [0, 1] (Ly.run cx3 3000 [(22, false), (5, true)] (sP m g 139 b1 b2)) = some ([(m.fc == true, false), (inb m.r7 && inb m.r3, true)], .int .i64 0, 5, hPm (z8b_1 m) (memL g)) := by kernel_rfl
@[simp] def z8c_0 (m : Mc) : Mc := { m with fc := decide (255 < m.r7 + m.r4 + 1), fp := par ((m.r7 + m.r4 + 1) % 256), fs := decide (128 ≤ (m.r7 + m.r4 + 1) % 256), fx := decide (15 < m.r7 % 16 + m.r4 % 16 + 1), fz := (m.r7 + m.r4 + 1) % 256 == 0, pc := w16 (m.pc + 1), r7 := (m.r7 + m.r4 + 1) % 256 }
@[simp] def z8c_1 (m : Mc) : Mc := { m with fc := decide (255 < m.r7 + m.r4 + 0), fp := par ((m.r7 + m.r4 + 0) % 256), fs := decide (128 ≤ (m.r7 + m.r4 + 0) % 256), fx := decide (15 < m.r7 % 16 + m.r4 % 16 + 0), fz := (m.r7 + m.r4 + 0) % 256 == 0, pc := w16 (m.pc + 1), r7 := (m.r7 + m.r4 + 0) % 256 }
theorem p8c_0 (m : Mc) (g : Nat → Int) (b1 b2 : Int) : endsAt [0, 1] (Ly.run cx3 3000 [(22, true), (5, true)] (sP m g 140 b1 b2)) = some (T [m.fc == true, inb m.r7 && inb m.r4], .int .i64 0, 5, hPm (z8c_0 m) (memL g)) := by kernel_rfl
theorem p8c_1 (m : Mc) (g : Nat → Int) (b1 b2 : Int) : endsAt [0, 1] (Ly.run cx3 3000 [(22, false), (5, true)] (sP m g 140 b1 b2)) = some ([(m.fc == true, false), (inb m.r7 && inb m.r4, true)], .int .i64 0, 5, hPm (z8c_1 m) (memL g)) := by kernel_rfl
@[simp] def z8d_0 (m : Mc) : Mc := { m with fc := decide (255 < m.r7 + m.r5 + 1), fp := par ((m.r7 + m.r5 + 1) % 256), fs := decide (128 ≤ (m.r7 + m.r5 + 1) % 256), fx := decide (15 < m.r7 % 16 + m.r5 % 16 + 1), fz := (m.r7 + m.r5 + 1) % 256 == 0, pc := w16 (m.pc + 1), r7 := (m.r7 + m.r5 + 1) % 256 }
@[simp] def z8d_1 (m : Mc) : Mc := { m with fc := decide (255 < m.r7 + m.r5 + 0), fp := par ((m.r7 + m.r5 + 0) % 256), fs := decide (128 ≤ (m.r7 + m.r5 + 0) % 256), fx := decide (15 < m.r7 % 16 + m.r5 % 16 + 0), fz := (m.r7 + m.r5 + 0) % 256 == 0, pc := w16 (m.pc + 1), r7 := (m.r7 + m.r5 + 0) % 256 }
theorem p8d_0 (m : Mc) (g : Nat → Int) (b1 b2 : Int) : endsAt [0, 1] (Ly.run cx3 3000 [(22, true), (5, true)] (sP m g 141 b1 b2)) = some (T [m.fc == true, inb m.r7 && inb m.r5], .int .i64 0, 5, hPm (z8d_0 m) (memL g)) := by kernel_rfl
theorem p8d_1 (m : Mc) (g : Nat → Int) (b1 b2 : Int) : endsAt [0, 1] (Ly.run cx3 3000 [(22, false), (5, true)] (sP m g 141 b1 b2)) = some ([(m.fc == true, false), (inb m.r7 && inb m.r5, true)], .int .i64 0, 5, hPm (z8d_1 m) (memL g)) := by kernel_rfl
@[simp] def z8e_0 (m : Mc) (g : Nat → Int) : Mc := { m with fc := decide (255 < m.r7 + g (ix (or16 (w16 (w16 m.r4 * 256)) (w16 m.r5))) + 1), fp := par ((m.r7 + g (ix (or16 (w16 (w16 m.r4 * 256)) (w16 m.r5))) + 1) % 256), fs := decide (128 ≤ (m.r7 + g (ix (or16 (w16 (w16 m.r4 * 256)) (w16 m.r5))) + 1) % 256), fx := decide (15 < m.r7 % 16 + g (ix (or16 (w16 (w16 m.r4 * 256)) (w16 m.r5))) % 16 + 1), fz := (m.r7 + g (ix (or16 (w16 (w16 m.r4 * 256)) (w16 m.r5))) + 1) % 256 == 0, pc := w16 (m.pc + 1), r7 := (m.r7 + g (ix (or16 (w16 (w16 m.r4 * 256)) (w16 m.r5))) + 1) % 256 }
@[simp] def z8e_1 (m : Mc) (g : Nat → Int) : Mc := { m with fc := decide (255 < m.r7 + g (ix (or16 (w16 (w16 m.r4 * 256)) (w16 m.r5))) + 0), fp := par ((m.r7 + g (ix (or16 (w16 (w16 m.r4 * 256)) (w16 m.r5))) + 0) % 256), fs := decide (128 ≤ (m.r7 + g (ix (or16 (w16 (w16 m.r4 * 256)) (w16 m.r5))) + 0) % 256), fx := decide (15 < m.r7 % 16 + g (ix (or16 (w16 (w16 m.r4 * 256)) (w16 m.r5))) % 16 + 0), fz := (m.r7 + g (ix (or16 (w16 (w16 m.r4 * 256)) (w16 m.r5))) + 0) % 256 == 0, pc := w16 (m.pc + 1), r7 := (m.r7 + g (ix (or16 (w16 (w16 m.r4 * 256)) (w16 m.r5))) + 0) % 256 }
theorem p8e_0 (m : Mc) (g : Nat → Int) (b1 b2 : Int) : endsAt [0, 1] (Ly.run cx3 3000 [(28, true), (0, true), (13, true), (0, true), (1, true), (5, true)] (sP m g 142 b1 b2)) = some (T [(true && lt16 (or16 (w16 (w16 m.r4 * 256)) (w16 m.r5))), bl (ix (or16 (w16 (w16 m.r4 * 256)) (w16 m.r5))), (true && lt16 (or16 (w16 (w16 m.r4 * 256)) (w16 m.r5))), bl (ix (or16 (w16 (w16 m.r4 * 256)) (w16 m.r5))), m.fc == true, inb m.r7 && inb (g (ix (or16 (w16 (w16 m.r4 * 256)) (w16 m.r5))))], .int .i64 0, 5, hPm (z8e_0 m g) (memL g)) := by kernel_rfl
theorem p8e_1 (m : Mc) (g : Nat → Int) (b1 b2 : Int) : endsAt [0, 1] (Ly.run cx3 3000 [(28, true), (0, true), (13, true), (0, true), (1, false), (5, true)] (sP m g 142 b1 b2)) = some ([((true && lt16 (or16 (w16 (w16 m.r4 * 256)) (w16 m.r5))), true), (bl (ix (or16 (w16 (w16 m.r4 * 256)) (w16 m.r5))), true), ((true && lt16 (or16 (w16 (w16 m.r4 * 256)) (w16 m.r5))), true), (bl (ix (or16 (w16 (w16 m.r4 * 256)) (w16 m.r5))), true), (m.fc == true, false), (inb m.r7 && inb (g (ix (or16 (w16 (w16 m.r4 * 256)) (w16 m.r5)))), true)], .int .i64 0, 5, hPm (z8e_1 m g) (memL g)) := by kernel_rfl
@[simp] def z8f_0 (m : Mc) : Mc := { m with fc := decide (255 < m.r7 + m.r7 + 1), fp := par ((m.r7 + m.r7 + 1) % 256), fs := decide (128 ≤ (m.r7 + m.r7 + 1) % 256), fx := decide (15 < m.r7 % 16 + m.r7 % 16 + 1), fz := (m.r7 + m.r7 + 1) % 256 == 0, pc := w16 (m.pc + 1), r7 := (m.r7 + m.r7 + 1) % 256 }
@[simp] def z8f_1 (m : Mc) : Mc := { m with fc := decide (255 < m.r7 + m.r7 + 0), fp := par ((m.r7 + m.r7 + 0) % 256), fs := decide (128 ≤ (m.r7 + m.r7 + 0) % 256), fx := decide (15 < m.r7 % 16 + m.r7 % 16 + 0), fz := (m.r7 + m.r7 + 0) % 256 == 0, pc := w16 (m.pc + 1), r7 := (m.r7 + m.r7 + 0) % 256 }
theorem p8f_0 (m : Mc) (g : Nat → Int) (b1 b2 : Int) : endsAt [0, 1] (Ly.run cx3 3000 [(22, true), (5, true)] (sP m g 143 b1 b2)) = some (T [m.fc == true, inb m.r7 && inb m.r7], .int .i64 0, 5, hPm (z8f_0 m) (memL g)) := by kernel_rfl
theorem p8f_1 (m : Mc) (g : Nat → Int) (b1 b2 : Int) : endsAt [0, 1] (Ly.run cx3 3000 [(22, false), (5, true)] (sP m g 143 b1 b2)) = some ([(m.fc == true, false), (inb m.r7 && inb m.r7, true)], .int .i64 0, 5, hPm (z8f_1 m) (memL g)) := by kernel_rfl
end Go.Proofs.Ytdjmpilegommlaa
namespace Go.Proofs.Ytdjmpilegommlaa
open Go Go.Ly Go.RowKit
end Go.Proofs.Ytdjmpilegommlaa
namespace Go.Proofs.Ytdjmpilegommlaa
open Go Go.Ly Go.RowKit
@[simp] def z90_0 (m : Mc) : Mc := { m with fc := decide (m.r7 - m.r0 - 0 < 0), fp := par ((m.r7 - m.r0 - 0) % 256), fs := decide (128 ≤ (m.r7 - m.r0 - 0) % 256), fx := decide (15 < m.r7 % 16 + 15 - m.r0 % 16 + 1), fz := (m.r7 - m.r0 - 0) % 256 == 0, pc := w16 (m.pc + 1), r7 := (m.r7 - m.r0 - 0) % 256 }
theorem p90_0 (m : Mc) (g : Nat → Int) (b1 b2 : Int) : endsAt [0, 1] (Ly.run cx3 3000 [(22, true), (7, true)] (sP m g 144 b1 b2)) = some (T [m.fc == true, inb m.r7 && inb m.r0], .int .i64 0, 5, hPm (z90_0 m) (memL g)) := by kernel_rfl
theorem p90_1 (m : Mc) (g : Nat → Int) (b1 b2 : Int) : endsAt [0, 1] (Ly.run cx3 3000 [(22, false), (7, true)] (sP m g 144 b1 b2)) = some ([(m.fc == true, false), (inb m.r7 && inb m.r0, true)], .int .i64 0, 5, hPm (z90_0 m) (memL g)) := by kernel_rfl
@[simp] def z91_0 (m : Mc) : Mc := { m with fc := decide (m.r7 - m.r1 - 0 < 0), fp := par ((m.r7 - m.r1 - 0) % 256), fs := decide (128 ≤ (m.r7 - m.r1 - 0) % 256), fx := decide (15 < m.r7 % 16 + 15 - m.r1 % 16 + 1), fz := (m.r7 - m.r1 - 0) % 256 == 0, pc := w16 (m.pc + 1), r7 := (m.r7 - m.r1 - 0) % 256 }
theorem p91_0 (m : Mc) (g : Nat → Int) (b1 b2 : Int) : endsAt [0, 1] (Ly.run cx3 3000 [(22, true), (7, true)] (sP m g 145 b1 b2)) = some (T [m.fc == true, inb m.r7 && inb m.r1], .int .i64 0, 5, hPm (z91_0 m) (memL g)) := by kernel_rfl
theorem p91_1 (m : Mc) (g : Nat → Int) (b1 b2 : Int) : endsAt [0, 1] (Ly.run cx3 3000 [(22, false), (7, true)] (sP m g 145 b1 b2)) = some ([(m.fc == true, false), (inb m.r7 && inb m.r1, true)], .int .i64 0, 5, hPm (z91_0 m) (memL g)) := by kernel_rfl
@[simp] def z92_0 (m : Mc) : Mc := { m with fc := decide (m.r7 - m.r2 - 0 < 0), fp := par ((m.r7 - m.r2 - 0) % 256), fs := decide (128 ≤ (m.r7 - m.r2 - 0) % 256), fx := decide (15 < m.r7 % 16 + 15 - m.r2 % 16 + 1), fz := (m.r7 - m.r2 - 0) % 256 == 0, pc := w16 (m.pc + 1), r7 := (m.r7 - m.r2 - 0) % 256 }
theorem p92_0 (m : Mc) (g : Nat → Int) (b1 b2 : Int) : endsAt [0, 1] (Ly.run cx3 3000 [(22, true), (7, true)] (sP m g 146 b1 b2)) = some (T [m.fc == true, inb m.r7 && inb m.r2], .int .i64 0, 5, hPm (z92_0 m) (memL g)) := by kernel_rfl
theorem p92_1 (m : Mc) (g : Nat → Int) (b1 b2 : Int) : endsAt [0, 1] (Ly.run cx3 3000 [(22, false), (7, true)] (sP m g 146 b1 b2)) = some ([(m.fc == true, false), (inb m.r7 && inb m.r2, true)], .int .i64 0, 5, hPm (z92_0 m) (memL g)) := by kernel_rfl
@[simp] def z93_0 (m : Mc) : Mc := { m with fc := decide (m.r7 - m.r3 - 0 < 0), fp := par ((m.r7 - m.r3 - 0) % 256), fs := decide (128 ≤ (m.r7 - m.r3 - 0) % 256), fx := decide (15 < m.r7 % 16 + 15 - m.r3 % 16 + 1), fz := (m.r7 - m.r3 - 0) % 256 == 0, pc := w16 (m.pc + 1), r7 := (m.r7 - m.r3 - 0) % 256 }
theorem p93_0 (m : Mc) (g : Nat → Int) (b1 b2 : Int) : endsAt [0, 1] (Ly.run cx3 3000 [(22, true), (7, true)] (sP m g 147 b1 b2)) = some (T [m.fc == true, inb m.r7 && inb m.r3], .int .i64 0, 5, hPm (z93_0 m) (memL g)) := by kernel_rfl
theorem p93_1 (m : Mc) (g : Nat → Int) (b1 b2 : Int) : endsAt [0, 1] (Ly.run cx3 3000 [(22, false), (7, true)] (sP m g 147 b1 b2)) = some ([(m.fc == true, false), (inb m.r7 && inb m.r3, true)], .int .i64 0, 5, hPm (z93_0 m) (memL g)) := by kernel_rfl
@[simp] def z94_0 (m : Mc) : Mc := { m with fc := decide (m.r7 - m.r4 - 0 < 0), fp := par ((m.r7 - m.r4 - 0) % 256), fs := decide (128 ≤ (m.r7 - m.r4 - 0) % 256), fx := decide (15 < m.r7 % 16 + 15 - m.r4 % 16 + 1), fz := (m.r7 - m.r4 - 0) % 256 == 0, pc := w16 (m.pc + 1), r7 := (m.r7 - m.r4 - 0) % 256 }
theorem p94_0 (m : Mc) (g : Nat → Int) (b1 b2 : Int) : endsAt [0, 1] (Ly.run cx3 3000 [(22, true), (7, true)] (sP m g 148 b1 b2)) = some (T [m.fc == true, inb m.r7 && inb m.r4], .int .i64 0, 5, hPm (z94_0 m) (memL g)) := by kernel_rfl
theorem p94_1 (m : Mc) (g : Nat → Int) (b1 b2 : Int) : endsAt [0, 1] (Ly.run cx3 3000 [(22, false), (7, true)] (sP m g 148 b1 b2)) = some ([(m.fc == true, false), (inb m.r7 && inb m.r4, true)], .int .i64 0, 5, hPm (z94_0 m) (memL g)) := by kernel_rfl
@[simp] def z95_0 (m : Mc) : Mc := { m with fc := decide (m.r7 - m.r5 - 0 < 0), fp := par ((m.r7 - m.r5 - 0) % 256), fs := decide (128 ≤ (m.r7 - m.r5 - 0) % 256), fx := decide (15 < m.r7 % 16 + 15 - m.r5 % 16 + 1), fz := (m.r7 - m.r5 - 0) % 256 == 0, pc := w16 (m.pc + 1), r7 := (m.r7 - m.r5 - 0) % 256 }
theorem p95_0 (m : Mc) (g : Nat → Int) (b1 b2 : Int) : endsAt [0, 1] (Ly.run cx3 3000 [(22, true), (7, true)] (sP m g 149 b1 b2)) = some (T [m.fc == true, inb m.r7 && inb m.r5], .int .i64 0, 5, hPm (z95_0 m) (memL g)) := by kernel_rfl
theorem p95_1 (m : Mc) (g : Nat → Int) (b1 b2 : Int) : endsAt [0, 1] (Ly.run cx3 3000 [(22, false), (7, true)] (sP m g 149 b1 b2)) = some ([(m.fc == true, false), (inb m.r7 && inb m.r5, true)], .int .i64 0, 5, hPm (z95_0 m) (memL g)) := by kernel_rfl
@[simp] def z96_0 (m : Mc) (g : Nat → Int) : Mc := { m with fc := decide (m.r7 - g (ix (or16 (w16 (w16 m.r4 * 256)) (w16 m.r5))) - 0 < 0), fp := par ((m.r7 - g (ix (or16 (w16 (w16 m.r4 * 256)) (w16 m.r5))) - 0) % 256), fs := decide (128 ≤ (m.r7 - g (ix (or16 (w16 (w16 m.r4 * 256)) (w16 m.r5))) - 0) % 256), fx := decide (15 < m.r7 % 16 + 15 - g (ix (or16 (w16 (w16 m.r4 * 256)) (w16 m.r5))) % 16 + 1), fz := (m.r7 - g (ix (or16 (w16 (w16 m.r4 * 256)) (w16 m.r5))) - 0) % 256 == 0, pc := w16 (m.pc + 1), r7 := (m.r7 - g (ix (or16 (w16 (w16 m.r4 * 256)) (w16 m.r5))) - 0) % 256 }
theorem p96_0 (m : Mc) (g : Nat → Int) (b1 b2 : Int) : endsAt [0, 1] (Ly.run cx3 3000 [(28, true), (0, true), (13, true), (0, true), (1, true), (7, true)] (sP m g 150 b1 b2)) = some (T [(true && lt16 (or16 (w16 (w16 m.r4 * 256)) (w16 m.r5))), bl (ix (or16 (w16 (w16 m.r4 * 256)) (w16 m.r5))), (true && lt16 (or16 (w16 (w16 m.r4 * 256)) (w16 m.r5))), bl (ix (or16 (w16 (w16 m.r4 * 256)) (w16 m.r5))), m.fc == true, inb m.r7 && inb (g (ix (or16 (w16 (w16 m.r4 * 256)) (w16 m.r5))))], .int .i64 0, 5, hPm (z96_0 m g) (memL g)) := by kernel_rfl
theorem p96_1 (m : Mc) (g : Nat → Int) (b1 b2 : Int) : endsAt [0, 1] (Ly.run cx3 3000 [(28, true), (0, true), (13, true), (0, true), (1, false), (7, true)] (sP m g 150 b1 b2)) = some ([((true && lt16 (or16 (w16 (w16 m.r4 * 256)) (w16 m.r5))), true), (bl (ix (or16 (w16 (w16 m.r4 * 256)) (w16 m.r5))), true), ((true && lt16 (or16 (w16 (w16 m.r4 * 256)) (w16 m.r5))), true), (bl (ix (or16 (w16 (w16 m.r4 * 256)) (w16 m.r5))), true), (m.fc == true, false), (inb m.r7 && inb (g (ix (or16 (w16 (w16 m.r4 * 256)) (w16 m.r5)))), true)], .int .i64 0, 5, hPm (z96_0 m g) (memL g)) := by kernel_rfl
@[simp] def z97_0 (m : Mc) : Mc := { m with fc := decide (m.r7 - m.r7 - 0 < 0), fp := par ((m.r7 - m.r7 - 0) % 256), fs := decide (128 ≤ (m.r7 - m.r7 - 0) % 256), fx := decide (15 < m.r7 % 16 + 15 - m.r7 % 16 + 1), fz := (m.r7 - m.r7 - 0) % 256 == 0, pc := w16 (m.pc + 1), r7 := (m.r7 - m.r7 - 0) % 256 }
theorem p97_0 (m : Mc) (g : Nat → Int) (b1 b2 : Int) : endsAt [0, 1] (Ly.run cx3 3000 [(22, true), (7, true)] (sP m g 151 b1 b2)) = some (T [m.fc == true, inb m.r7 && inb m.r7], .int .i64 0, 5, hPm (z97_0 m) (memL g)) := by kernel_rfl
theorem p97_1 (m : Mc) (g : Nat → Int) (b1 b2 : Int) : endsAt [0, 1] (Ly.run cx3 3000 [(22, false), (7, true)] (sP m g 151 b1 b2)) = some ([(m.fc == true, false), (inb m.r7 && inb m.r7, true)], .int .i64 0, 5, hPm (z97_0 m) (memL g)) := by kernel_rfl
@[simp] def z98_0 (m : Mc) : Mc := { m with fc := decide (m.r7 - m.r0 - 1 < 0), fp := par ((m.r7 - m.r0 - 1) % 256), fs := decide (128 ≤ (m.r7 - m.r0 - 1) % 256), fx := decide (15 < m.r7 % 16 + 15 - m.r0 % 16 + 0), fz := (m.r7 - m.r0 - 1) % 256 == 0, pc := w16 (m.pc + 1), r7 := (m.r7 - m.r0 - 1) % 256 }
@[simp] def z98_1 (m : Mc) : Mc := { m with fc := decide (m.r7 - m.r0 - 0 < 0), fp := par ((m.r7 - m.r0 - 0) % 256), fs := decide (128 ≤ (m.r7 - m.r0 - 0) % 256), fx := decide (15 < m.r7 % 16 + 15 - m.r0 % 16 + 1), fz := (m.r7 - m.r0 - 0) % 256 == 0, pc := w16 (m.pc + 1), r7 := (m.r7 - m.r0 - 0) % 256 }
theorem p98_0 (m : Mc) (g : Nat → Int) (b1 b2 : Int) : endsAt [0, 1] (Ly.run cx3 3000 [(22, true), (7, true)] (sP m g 152 b1 b2)) = some (T [m.fc == true, inb m.r7 && inb m.r0], .int .i64 0, 5, hPm (z98_0 m) (memL g)) := by kernel_rfl
theorem p98_1 (m : Mc) (g : Nat → Int) (b1 b2 : Int) : endsAt [0, 1] (Ly.run cx3 3000 [(22, false), (7, true)] (sP m g 152 b1 b2)) = some ([(m.fc == true, false), (inb m.r7 && inb m.r0, true)], .int .i64 0, 5, hPm (z98_1 m) (memL g)) := by kernel_rfl
@[simp] def z99_0 (m : Mc) : Mc := { m with fc := decide (m.r7 - m.r1 - 1 < 0), fp := par ((m.r7 - m.r1 - 1) % 256), fs := decide (128 ≤ (m.r7 - m.r1 - 1) % 256), fx := decide (15 < m.r7 % 16 + 15 - m.r1 % 16 + 0), fz := (m.r7 - m.r1 - 1) % 256 == 0, pc := w16 (m.pc + 1), r7 := (m.r7 - m.r1 - 1) % 256 }
@[simp] def z99_1 (m : Mc) : Mc := { m with fc := decide (m.r7 - m.r1 - 0 < 0), fp := par ((m.r7 - m.r1 - 0) % 256), fs := decide (128 ≤ (m.r7 - m.r1 - 0) % 256), fx := decide (15 < m.r7 % 16 + 15 - m.r1 % 16 + 1), fz := (m.r7 - m.r1 - 0) % 256 == 0, pc := w16 (m.pc + 1), r7 := (m.r7 - m.r1 - 0) % 256 }
theorem p99_0 (m : Mc) (g : Nat → Int) (b1 b2 : Int) : endsAt [0, 1] (Ly.run cx3 3000 [(22, true), (7, true)] (sP m g 153 b1 b2)) = some (T [m.fc == true, inb m.r7 && inb m.r1], .int .i64 0, 5, hPm (z99_0 m) (memL g)) := by kernel_rfl
theorem p99_1 (m : Mc) (g : Nat → Int) (b1 b2 : Int) : endsAt [0, 1] (Ly.run cx3 3000 [(22, false), (7, true)] (sP m g 153 b1 b2)) = some ([(m.fc == true, false), (inb m.r7 && inb m.r1, true)], .int .i64 0, 5, hPm (z99_1 m) (memL g)) := by kernel_rfl
@[simp] def z9a_0 (m : Mc) : Mc := { m with fc := decide (m.r7 - m.r2 - 1 < 0), fp := par ((m.r7 - m.r2 - 1) % 256), fs := decide (128 ≤ (m.r7 - m.r2 - 1) % 256), fx := decide (15 < m.r7 % 16 + 15 - m.r2 % 16 + 0), fz := (m.r7 - m.r2 - 1) % 256 == 0, pc := w16 (m.pc + 1), r7 := (m.r7 - m.r2 - 1) % 256 }
@[simp] def z9a_1 (m : Mc) : Mc := { m with fc := decide (m.r7 - m.r2 - 0 < 0), fp := par ((m.r7 - m.r2 - 0) % 256), fs := decide (128 ≤ (m.r7 - m.r2 - 0) % 256), fx := decide (15 < m.r7 % 16 + 15 - m.r2 % 16 + 1), fz := (m.r7 - m.r2 - 0) % 256 == 0, pc := w16 (m.pc + 1), r7 := (m.r7 - m.r2 - 0) % 256 }
theorem p9a_0 (m : Mc) (g : Nat → Int) (b1 b2 : Int) : endsAt [0, 1] (Ly.run cx3 3000 [(22, true), (7, true)] (sP m g 154 b1 b2)) = some (T [m.fc == true, inb m.r7 && inb m.r2], .int .i64 0, 5, hPm (z9a_0 m) (memL g)) := by kernel_rfl
theorem p9a_1 (m : Mc) (g : Nat → Int) (b1 b2 : Int) : endsAt [0, 1] (Ly.run cx3 3000 [(22, false), (7, true)] (sP m g 154 b1 b2)) = some ([(m.fc == true, false), (inb m.r7 && inb m.r2, true)], .int .i64 0, 5, hPm (z9a_1 m) (memL g)) := by kernel_rfl
@[simp] def z9b_0 (m : Mc) : Mc := { m with fc := decide (m.r7 - m.r3 - 1 < 0), fp := par ((m.r7 - m.r3 - 1) % 256), fs := decide (128 ≤ (m.r7 - m.r3 - 1) % 256), fx := decide (15 < m.r7 % 16 + 15 - m.r3 % 16 + 0), fz := (m.r7 - m.r3 - 1) % 256 == 0, pc := w16 (m.pc + 1), r7 := (m.r7 - m.r3 - 1) % 256 }
@[simp] def z9b_1 (m : Mc) : Mc := { m with fc := decide (m.r7 - m.r3 - 0 < 0), fp := par ((m.r7 - m.r3 - 0) % 256), fs := decide (128 ≤ (m.r7 - m.r3 - 0) % 256), fx := decide (15 < m.r7 % 16 + 15 - m.r3 % 16 + 1), fz := (m.r7 - m.r3 - 0) % 256 == 0, pc := w16 (m.pc + 1), r7 := (m.r7 - m.r3 - 0) % 256 }
theorem p9b_0 (m : Mc) (g : Nat → Int) (b1 b2 : Int) : endsAt [0, 1] (Ly.run cx3 3000 [(22, true), (7, true)] (sP m g 155 b1 b2)) = some (T [m.fc == true, inb m.r7 && inb m.r3], .int .i64 0, 5, hPm (z9b_0 m) (memL g)) := by kernel_rfl
theorem p9b_1 (m : Mc) (g : Nat → Int) (b1 b2 : Int) : endsAt [0, 1] (Ly.run cx3 3000 [(22, false), (7, true)] (sP m g 155 b1 b2)) = some ([(m.fc == true, false), (inb m.r7 && inb m.r3, true)], .int .i64 0, 5, hPm (z9b_1 m) (memL g)) := by kernel_rfl
@[simp] def z9c_0 (m : Mc) : Mc := { m with fc := decide (m.r7 - m.r4 - 1 < 0), fp := par ((m.r7 - m.r4 - 1) % 256), fs := decide (128 ≤ (m.r7 - m.r4 - 1) % 256), fx := decide (15 < m.r7 % 16 + 15 - m.r4 % 16 + 0), fz := (m.r7 - m.r4 - 1) % 256 == 0, pc := w16 (m.pc + 1), r7 := (m.r7 - m.r4 - 1) % 256 }
@[simp] def z9c_1 (m : Mc) : Mc := { m with fc := decide (m.r7 - m.r4 - 0 < 0), fp := par ((m.r7 - m.r4 - 0) % 256), fs := decide (128 ≤ (m.r7 - m.r4 - 0) % 256), fx := decide (15 < m.r7 % 16 + 15 - m.r4 % 16 + 1), fz := (m.r7 - m.r4 - 0) % 256 == 0, pc := w16 (m.pc + 1), r7 := (m.r7 - m.r4 - 0) % 256 }
theorem p9c_0 (m : Mc) (g : Nat → Int) (b1 b2 : Int) : endsAt [0, 1] (Ly.run cx3 3000 [(22, true), (7, true)] (sP m g 156 b1 b2)) = some (T [m.fc == true, inb m.r7 && inb m.r4], .int .i64 0, 5, hPm (z9c_0 m) (memL g)) := by kernel_rfl
theorem p9c_1 (m : Mc) (g : Nat → Int) (b1 b2 : Int) : endsAt [0, 1] (Ly.run cx3 3000 [(22, false), (7, true)] (sP m g 156 b1 b2)) = some ([(m.fc == true, false), (inb m.r7 && inb m.r4, true)], .int .i64 0, 5, hPm (z9c_1 m) (memL g)) := by kernel_rfl
@[simp] def z9d_0 (m : Mc) : Mc := { m with fc := decide (m.r7 - m.r5 - 1 < 0), fp := par ((m.r7 - m.r5 - 1) % 256), fs := decide (128 ≤ (m.r7 - m.r5 - 1) % 256), fx := decide (15 < m.r7 % 16 + 15 - m.r5 % 16 + 0), fz := (m.r7 - m.r5 - 1) % 256 == 0, pc := w16 (m.pc + 1), r7 := (m.r7 - m.r5 - 1) % 256 }
@[simp] def z9d_1 (m : Mc) : Mc := { m with fc := decide (m.r7 - m.r5 - 0 < 0), fp := par ((m.r7 - m.r5 - 0) % 256), fs := decide (128 ≤ (m.r7 - m.r5 - 0) % 256), fx := decide (15 < m.r7 % 16 + 15 - m.r5 % 16 + 1), fz := (m.r7 - m.r5 - 0) % 256 == 0, pc := w16 (m.pc + 1), r7 := (m.r7 - m.r5 - 0) % 256 }
theorem p9d_0 (m : Mc) (g : Nat → Int) (b1 b2 : Int) : endsAt [0, 1] (Ly.run cx3 3000 [(22, true), (7, true)] (sP m g 157 b1 b2)) = some (T [m.fc == true, inb m.r7 && inb m.r5], .int .i64 0, 5, hPm (z9d_0 m) (memL g)) := by kernel_rfl
theorem p9d_1 (m : Mc) (g : Nat → Int) (b1 b2 : Int) : endsAt [0, 1] (Ly.run cx3 3000 [(22, false), (7, true)] (sP m g 157 b1 b2)) = some ([(m.fc == true, false), (inb m.r7 && inb m.r5, true)], .int .i64 0, 5, hPm (z9d_1 m) (memL g)) := by kernel_rfl
@[simp] def z9e_0 (m : Mc) (g : Nat → Int) : Mc := { m with fc := decide (m.r7 - g (ix (or16 (w16 (w16 m.r4 * 256)) (w16 m.r5))) - 1 < 0), fp := par ((m.r7 - g (ix (or16 (w16 (w16 m.r4 * 256)) (w16 m.r5))) - 1) % 256), fs := decide (128 ≤ (m.r7 - g (ix (or16 (w16 (w16 m.r4 * 256)) (w16 m.r5))) - 1) % 256), fx := decide (15 < m.r7 % 16 + 15 - g (ix (or16 (w16 (w16 m.r4 * 256)) (w16 m.r5))) % 16 + 0), fz := (m.r7 - g (ix (or16 (w16 (w16 m.r4 * 256)) (w16 m.r5))) - 1) % 256 == 0, pc := w16 (m.pc + 1), r7 := (m.r7 - g (ix (or16 (w16 (w16 m.r4 * 256)) (w16 m.r5))) - 1) % 256 }
@[simp] def z9e_1 (m : Mc) (g : Nat → Int) : Mc := { m with fc := decide (m.r7 - g (ix (or16 (w16 (w16 m.r4 * 256)) (w16 m.r5))) - 0 < 0), fp := par ((m.r7 - g (ix (or16 (w16 (w16 m.r4 * 256)) (w16 m.r5))) - 0) % 256), fs := decide (128 ≤ (m.r7 - g (ix (or16 (w16 (w16 m.r4 * 256)) (w16 m.r5))) - 0) % 256), fx := decide (15 < m.r7 % 16 + 15 - g (ix (or16 (w16 (w16 m.r4 * 256)) (w16 m.r5))) % 16 + 1), fz := (m.r7 - g (ix (or16 (w16 (w16 m.r4 * 256)) (w16 m.r5))) - 0) % 256 == 0, pc := w16 (m.pc + 1), r7 := (m.r7 - g (ix (or16 (w16 (w16 m.r4 * 256)) (w16 m.r5))) - 0) % 256 }
theorem p9e_0 (m : Mc) (g : Nat → Int) (b1 b2 : Int) : endsAt [0, 1] (Ly.run cx3 3000 [(28, true), (0, true), (13, true), (0, true), (1, true), (7, true)] (sP m g 158 b1 b2)) = some (T [(true && lt16 (or16 (w16 (w16 m.r4 * 256)) (w16 m.r5))), bl (ix (or16 (w16 (w16 m.r4 * 256)) (w16 m.r5))), (true && lt16 (or16 (w16 (w16 m.r4 * 256)) (w16 m.r5))), bl (ix (or16 (w16 (w16 m.r4 * 256)) (w16 m.r5))), m.fc == true, inb m.r7 && inb (g (ix (or16 (w16 (w16 m.r4 * 256)) (w16 m.r5))))], .int .i64 0, 5, hPm (z9e_0 m g) (memL g)) := by kernel_rfl
theorem p9e_1 (m : Mc) (g : Nat → Int) (b1 b2 : Int) : endsAt [0, 1] (Ly.run cx3 3000 [(28, true), (0, true), (13, true), (0, true), (1, false), (7, true)] (sP m g 158 b1 b2)) = some ([((true && lt16 (or16 (w16 (w16 m.r4 * 256)) (w16 m.r5))), true), (bl (ix (or16 (w16 (w16 m.r4 * 256)) (w16 m.r5))), true), ((true && lt16 (or16 (w16 (w16 m.r4 * 256)) (w16 m.r5))), true), (bl (ix (or16 (w16 (w16 m.r4 * 256)) (w16 m.r5))), true), (m.fc == true, false), (inb m.r7 && inb (g (ix (or16 (w16 (w16 m.r4 * 256)) (w16 m.r5)))), true)], .int .i64 0, 5, hPm (z9e_1 m g) (memL g)) := by kernel_rfl
@[simp] def z9f_0 (m : Mc) : Mc := { m with fc := decide (m.r7 - m.r7 - 1 < 0), fp := par ((m.r7 - m.r7 - 1) % 256), fs := decide (128 ≤ (m.r7 - m.r7 - 1) % 256), fx := decide (15 < m.r7 % 16 + 15 - m.r7 % 16 + 0), fz := (m.r7 - m.r7 - 1) % 256 == 0, pc := w16 (m.pc + 1), r7 := (m.r7 - m.r7 - 1) % 256 }
@[simp] def z9f_1 (m : Mc) : Mc := { m with fc := decide (m.r7 - m.r7 - 0 < 0), fp := par ((m.r7 - m.r7 - 0) % 256), fs := decide (128 ≤ (m.r7 - m.r7 - 0) % 256), fx := decide (15 < m.r7 % 16 + 15 - m.r7 % 16 + 1), fz := (m.r7 - m.r7 - 0) % 256 == 0, pc := w16 (m.pc + 1), r7 := (m.r7 - m.r7 - 0) % 256 }
theorem p9f_0 (m : Mc) (g : Nat → Int) (b1 b2 : Int) : endsAt [0, 1] (Ly.run cx3 3000 [(22, true), (7, true)] (sP m g 159 b1 b2)) = some (T [m.fc == true, inb m.r7 && inb m.r7], .int .i64 0, 5, hPm (z9f_0 m) (memL g)) := by kernel_rfl
theorem p9f_1 (m : Mc) (g : Nat → Int) (b1 b2 : Int) : endsAt [0, 1] (Ly.run cx3 3000 [(22, false), (7, true)] (sP m g 159 b1 b2)) = some ([(m.fc == true, false), (inb m.r7 && inb m.r7, true)], .int .i64 0, 5, hPm (z9f_1 m) (memL g)) := by kernel_rfl
end Go.Proofs.Ytdjmpilegommlaa
namespace Go.Proofs.Ytdjmpilegommlaa
open Go Go.Ly Go.RowKit
end Go.Proofs.Ytdjmpilegommlaa
namespace Go.Proofs.Ytdjmpilegommlaa
open Go Go.Ly Go.RowKit
@[simp] def za0_0 (m : Mc) : Mc := { m with fc := false, fp := par (and8 m.r7 m.r0), fs := decide (128 ≤ and8 m.r7 m.r0), fx := and8 (or8 m.r7 m.r0) 8 != 0, fz := and8 m.r7 m.r0 == 0, pc := w16 (m.pc + 1), r7 := and8 m.r7 m.r0 }
theorem pa0_0 (m : Mc) (g : Nat → Int) (b1 b2 : Int) : endsAt [0, 1] (Ly.run cx3 3000 [(22, true), (8, true)] (sP m g 160 b1 b2)) = some (T [m.fc == true, inb m.r7 && inb m.r0], .int .i64 0, 5, hPm (za0_0 m) (memL g)) := by kernel_rfl
theorem pa0_1 (m : Mc) (g : Nat → Int) (b1 b2 : Int) : endsAt [0, 1] (Ly.run cx3 3000 [(22, false), (8, true)] (sP m g 160 b1 b2)) = some ([(m.fc == true, false), (inb m.r7 && inb m.r0, true)], .int .i64 0, 5, hPm (za0_0 m) (memL g)) := by kernel_rfl
@[simp] def za1_0 (m : Mc) : Mc := { m with fc := false, fp := par (and8 m.r7 m.r1), fs := decide (128 ≤ and8 m.r7 m.r1), fx := and8 (or8 m.r7 m.r1) 8 != 0, fz := and8 m.r7 m.r1 == 0, pc := w16 (m.pc + 1), r7 := and8 m.r7 m.r1 }
theorem pa1_0 (m : Mc) (g : Nat → Int) (b1 b2 : Int) : endsAt [0, 1] (Ly.run cx3 3000 [(22, true), (8, true)] (sP m g 161 b1 b2)) = some (T [m.fc == true, inb m.r7 && inb m.r1], .int .i64 0, 5, hPm (za1_0 m) (memL g)) := by kernel_rfl
theorem pa1_1 (m : Mc) (g : Nat → Int) (b1 b2 : Int) : endsAt [0, 1] (Ly.run cx3 3000 [(22, false), (8, true)] (sP m g 161 b1 b2)) = some ([(m.fc == true, false), (inb m.r7 && inb m.r1, true)], .int .i64 0, 5, hPm (za1_0 m) (memL g)) := by kernel_rfl
@[simp] def za2_0 (m : Mc) : Mc := { m with fc := false, fp := par (and8 m.r7 m.r2), fs := decide (128 ≤ and8 m.r7 m.r2), fx := and8 (or8 m.r7 m.r2) 8 != 0, fz := and8 m.r7 m.r2 == 0, pc := w16 (m.pc + 1), r7 := and8 m.r7 m.r2 }
theorem pa2_0 (m : Mc) (g : Nat → Int) (b1 b2 : Int) : endsAt [0, 1] (Ly.run cx3 3000 [(22, true), (8, true)] (sP m g 162 b1 b2)) = some (T [m.fc == true, inb m.r7 && inb m.r2], .int .i64 0, 5, hPm (za2_0 m) (memL g)) := by kernel_rfl
theorem pa2_1 (m : Mc) (g : Nat → Int) (b1 b2 : Int) : endsAt [0, 1] (Ly.run cx3 3000 [(22, false), (8, true)] (sP m g 162 b1 b2)) = some ([(m.fc == true, false), (inb m.r7 && inb m.r2, true)], .int .i64 0, 5, hPm (za2_0 m) (memL g)) := by kernel_rfl
@[simp] def za3_0 (m : Mc) : Mc := { m with fc := false, fp := par (and8 m.r7 m.r3), fs := decide (128 ≤ and8 m.r7 m.r3), fx := and8 (or8 m.r7 m.r3) 8 != 0, fz := and8 m.r7 m.r3 == 0, pc := w16 (m.pc + 1), r7 := and8 m.r7 m.r3 }
theorem pa3_0 (m : Mc) (g : Nat → Int) (b1 b2 : Int) : endsAt [0, 1] (Ly.run cx3 3000 [(22, true), (8, true)] (sP m g 163 b1 b2)) = some (T [m.fc == true, inb m.r7 && inb m.r3], .int .i64 0, 5, hPm (za3_0 m) (memL g)) := by kernel_rfl
theorem pa3_1 (m : Mc) (g : Nat → Int) (b1 b2 : Int) : endsAt [0, 1] (Ly.run cx3 3000 [(22, false), (8, true)] (sP m g 163 b1 b2)) = some ([(m.fc == true, false), (inb m.r7 && inb m.r3, true)], .int .i64 0, 5, hPm (za3_0 m) (memL g)) := by kernel_rfl
@[simp] def za4_0 (m : Mc) : Mc := { m with fc := false, fp := par (and8 m.r7 m.r4), fs := decide (128 ≤ and8 m.r7 m.r4), fx := and8 (or8 m.r7 m.r4) 8 != 0, fz := and8 m.r7 m.r4 == 0, pc := w16 (m.pc + 1), r7 := and8 m.r7 m.r4 }
theorem pa4_0 (m : Mc) (g : Nat → Int) (b1 b2 : Int) : endsAt [0, 1] (Ly.run cx3 3000 [(22, true), (8, true)] (sP m g 164 b1 b2)) = some (T [m.fc == true, inb m.r7 && inb m.r4], .int .i64 0, 5, hPm (za4_0 m) (memL g)) := by kernel_rfl
theorem pa4_1 (m : Mc) (g : Nat → Int) (b1 b2 : Int) : endsAt [0, 1] (Ly.run cx3 3000 [(22, false), (8, true)] (sP m g 164 b1 b2)) = some ([(m.fc == true, false), (inb m.r7 && inb m.r4, true)], .int .i64 0, 5, hPm (za4_0 m) (memL g)) := by kernel_rfl
@[simp] def za5_0 (m : Mc) : Mc := { m with fc := false, fp := par (and8 m.r7 m.r5), fs := decide (128 ≤ and8 m.r7 m.r5), fx := and8 (or8 m.r7 m.r5) 8 != 0, fz := and8 m.r7 m.r5 == 0, pc := w16 (m.pc + 1), r7 := and8 m.r7 m.r5 }
theorem pa5_0 (m : Mc) (g : Nat → Int) (b1 b2 : Int) : endsAt [0, 1] (Ly.run cx3 3000 [(22, true), (8, true)] (sP m g 165 b1 b2)) = some (T [m.fc == true, inb m.r7 && inb m.r5], .int .i64 0, 5, hPm (za5_0 m) (memL g)) := by kernel_rfl
theorem pa5_1 (m : Mc) (g : Nat → Int) (b1 b2 : Int) : endsAt [0, 1] (Ly.run cx3 3000 [(22, false), (8, true)] (sP m g 165 b1 b2)) = some ([(m.fc == true, false), (inb m.r7 && inb m.r5, true)], .int .i64 0, 5, hPm (za5_0 m) (memL g)) := by kernel_rfl
@[simp] def za6_0 (m : Mc) (g : Nat → Int) : Mc := { m with fc := false, fp := par (and8 m.r7 (g (ix (or16 (w16 (w16 m.r4 * 256)) (w16 m.r5))))), fs := decide (128 ≤ and8 m.r7 (g (ix (or16 (w16 (w16 m.r4 * 256)) (w16 m.r5))))), fx := and8 (or8 m.r7 (g (ix (or16 (w16 (w16 m.r4 * 256)) (w16 m.r5))))) 8 != 0, fz := and8 m.r7 (g (ix (or16 (w16 (w16 m.r4 * 256)) (w16 m.r5)))) == 0, pc := w16 (m.pc + 1), r7 := and8 m.r7 (g (ix (or16 (w16 (w16 m.r4 * 256)) (w16 m.r5)))) }
theorem pa6_0 (m : Mc) (g : Nat → Int) (b1 b2 : Int) : endsAt [0, 1] (Ly.run cx3 3000 [(28, true), (0, true), (13, true), (0, true), (1, true), (8, true)] (sP m g 166 b1 b2)) = some (T [(true && lt16 (or16 (w16 (w16 m.r4 * 256)) (w16 m.r5))), bl (ix (or16 (w16 (w16 m.r4 * 256)) (w16 m.r5))), (true && lt16 (or16 (w16 (w16 m.r4 * 256)) (w16 m.r5))), bl (ix (or16 (w16 (w16 m.r4 * 256)) (w16 m.r5))), m.fc == true, inb m.r7 && inb (g (ix (or16 (w16 (w16 m.r4 * 256)) (w16 m.r5))))], .int .i64 0, 5, hPm (za6_0 m g) (memL g)) := by kernel_rfl
theorem pa6_1 (m : Mc) (g : Nat → Int) (b1 b2 : Int) : endsAt [0, 1] (Ly.run cx3 3000 [(28, true), (0, true), (13, true), (0, true), (1, false), (8, true)] (sP m g 166 b1 b2)) = some ([((true && lt16 (or16 (w16 (w16 m.r4 * 256)) (w16 m.r5))), true), (bl (ix (or16 (w16 (w16 m.r4 * 256)) (w16 m.r5))), true), ((true && lt16 (or16 (w16 (w16 m.r4 * 256)) (w16 m.r5))), true), (bl (ix (or16 (w16 (w16 m.r4 * 256)) (w16 m.r5))), true), (m.fc == true, false), (inb m.r7 && inb (g (ix (or16 (w16 (w16 m.r4 * 256)) (w16 m.r5)))), true)], .int .i64 0, 5, hPm (za6_0 m g) (memL g)) := by kernel_rfl
@[simp] def za7_0 (m : Mc) : Mc := { m with fc := false, fp := par (and8 m.r7 m.r7), fs := decide (128 ≤ and8 m.r7 m.r7), fx := and8 (or8 m.r7 m.r7) 8 != 0, fz := and8 m.r7 m.r7 == 0, pc := w16 (m.pc + 1), r7 := and8 m.r7 m.r7 }
theorem pa7_0 (m : Mc) (g : Nat → Int) (b1 b2 : Int) : endsAt [0, 1] (Ly.run cx3 3000 [(22, true), (8, true)] (sP m g 167 b1 b2)) = some (T [m.fc == true, inb m.r7 && inb m.r7], .int .i64 0, 5, hPm (za7_0 m) (memL g)) := by kernel_rfl
theorem pa7_1 (m : Mc) (g : Nat → Int) (b1 b2 : Int) : endsAt [0, 1] (Ly.run cx3 3000 [(22, false), (8, true)] (sP m g 167 b1 b2)) = some ([(m.fc == true, false), (inb m.r7 && inb m.r7, true)], .int .i64 0, 5, hPm (za7_0 m) (memL g)) := by kernel_rfl
@[simp] def za8_0 (m : Mc) : Mc := { m with fc := false, fp := par (xor8 m.r7 m.r0), fs := decide (128 ≤ xor8 m.r7 m.r0), fx := false, fz := xor8 m.r7 m.r0 == 0, pc := w16 (m.pc + 1), r7 := xor8 m.r7 m.r0 }
theorem pa8_0 (m : Mc) (g : Nat → Int) (b1 b2 : Int) : endsAt [0, 1] (Ly.run cx3 3000 [(22, true), (9, true)] (sP m g 168 b1 b2)) = some (T [m.fc == true, inb m.r7 && inb m.r0], .int .i64 0, 5, hPm (za8_0 m) (memL g)) := by kernel_rfl
theorem pa8_1 (m : Mc) (g : Nat → Int) (b1 b2 : Int) : endsAt [0, 1] (Ly.run cx3 3000 [(22, false), (9, true)] (sP m g 168 b1 b2)) = some ([(m.fc == true, false), (inb m.r7 && inb m.r0, true)], .int .i64 0, 5, hPm (za8_0 m) (memL g)) := by kernel_rfl
@[simp] def za9_0 (m : Mc) : Mc := { m with fc := false, fp := par (xor8 m.r7 m.r1), fs := decide (128 ≤ xor8 m.r7 m.r1), fx := false, fz := xor8 m.r7 m.r1 == 0, pc := w16 (m.pc + 1), r7 := xor8 m.r7 m.r1 }
theorem pa9_0 (m : Mc) (g : Nat → Int) (b1 b2 : Int) : endsAt [0, 1] (Ly.run cx3 3000 [(22, true), (9, true)] (sP m g 169 b1 b2)) = some (T [m.fc == true, inb m.r7 && inb m.r1], .int .i64 0, 5, hPm (za9_0 m) (memL g)) := by kernel_rfl
theorem pa9_1 (m : Mc) (g : Nat → Int) (b1 b2 : Int) : endsAt [0, 1] (Ly.run cx3 3000 [(22, false), (9, true)] (sP m g 169 b1 b2)) = some ([(m.fc == true, false), (inb m.r7 && inb m.r1, true)], .int .i64 0, 5, hPm (za9_0 m) (memL g)) := by kernel_rfl
@[simp] def zaa_0 (m : Mc) : Mc := { m with fc := false, fp := par (xor8 m.r7 m.r2), fs := decide (128 ≤ xor8 m.r7 m.r2), fx := false, fz := xor8 m.r7 m.r2 == 0, pc := w16 (m.pc + 1), r7 := xor8 m.r7 m.r2 }
theorem paa_0 (m : Mc) (g : Nat → Int) (b1 b2 : Int) : endsAt [0, 1] (Ly.run cx3 3000 [(22, true), (9, true)] (sP m g 170 b1 b2)) = some (T [m.fc == true, inb m.r7 && inb m.r2], .int .i64 0, 5, hPm (zaa_0 m) (memL g)) := by kernel_rfl
theorem paa_1 (m : Mc) (g : Nat → Int) (b1 b2 : Int) : endsAt [0, 1] (Ly.run cx3 3000 [(22, false), (9, true)] (sP m g 170 b1 b2)) = some ([(m.fc == true, false), (inb m.r7 && inb m.r2, true)], .int .i64 0, 5, hPm (zaa_0 m) (memL g)) := by kernel_rfl
@[simp] def zab_0 (m : Mc) : Mc := { m with fc := false, fp := par (xor8 m.r7 m.r3), fs := decide (128 ≤ xor8 m.r7 m.r3), fx := false, fz := xor8 m.r7 m.r3 == 0, pc := w16 (m.pc + 1), r7 := xor8 m.r7 m.r3 }
theorem pab_0 (m : Mc) (g : Nat → Int) (b1 b2 : Int) : endsAt [0, 1] (Ly.run cx3 3000 [(22, true), (9, true)] (sP m g 171 b1 b2)) = some (T [m.fc == true, inb m.r7 && inb m.r3], .int .i64 0, 5, hPm (zab_0 m) (memL g)) := by kernel_rfl
theorem pab_1 (m : Mc) (g : Nat → Int) (b1 b2 : Int) : endsAt [0, 1] (Ly.run cx3 3000 [(22, false), (9, true)] (sP m g 171 b1 b2)) = some ([(m.fc == true, false), (inb m.r7 && inb m.r3, true)], .int .i64 0, 5, hPm (zab_0 m) (memL g)) := by kernel_rfl
@[simp] def zac_0 (m : Mc) : Mc := { m with fc := false, fp := par (xor8 m.r7 m.r4), fs := decide (128 ≤ xor8 m.r7 m.r4), fx := false, fz := xor8 m.r7 m.r4 == 0, pc := w16 (m.pc + 1), r7 := xor8 m.r7 m.r4 }
theorem pac_0 (m : Mc) (g : Nat → Int) (b1 b2 : Int) : endsAt [0, 1] (Ly.run cx3 3000 [(22, true), (9, true)] (sP m g 172 b1 b2)) = some (T [m.fc == true, inb m.r7 && inb m.r4], .int .i64 0, 5, hPm (zac_0 m) (memL g)) := by kernel_rfl
theorem pac_1 (m : Mc) (g : Nat → Int) (b1 b2 : Int) : endsAt [0, 1] (Ly.run cx3 3000 [(22, false), (9, true)] (sP m g 172 b1 b2)) = some ([(m.fc == true, false), (inb m.r7 && inb m.r4, true)], .int .i64 0, 5, hPm (zac_0 m) (memL g)) := by kernel_rfl
@[simp] def zad_0 (m : Mc) : Mc := { m with fc := false, fp := par (xor8 m.r7 m.r5), fs := decide (128 ≤ xor8 m.r7 m.r5), fx := false, fz := xor8 m.r7 m.r5 == 0, pc := w16 (m.pc + 1), r7 := xor8 m.r7 m.r5 }
theorem pad_0 (m : Mc) (g : Nat → Int) (b1 b2 : Int) : endsAt [0, 1] (Ly.run cx3 3000 [(22, true), (9, true)] (sP m g 173 b1 b2)) = some (T [m.fc == true, inb m.r7 && inb m.r5], .int .i64 0, 5, hPm (zad_0 m) (memL g)) := by kernel_rfl
theorem pad_1 (m : Mc) (g : Nat → Int) (b1 b2 : Int) : endsAt [0, 1] (Ly.run cx3 3000 [(22, false), (9, true)] (sP m g 173 b1 b2)) = some ([(m.fc == true, false), (inb m.r7 && inb m.r5, true)], .int .i64 0, 5, hPm (zad_0 m) (memL g)) := by kernel_rfl
@[simp] def zae_0 (m : Mc) (g : Nat → Int) : Mc := { m with fc := false, fp := par (xor8 m.r7 (g (ix (or16 (w16 (w16 m.r4 * 256)) (w16 m.r5))))), fs := decide (128 ≤ xor8 m.r7 (g (ix (or16 (w16 (w16 m.r4 * 256)) (w16 m.r5))))), fx := false, fz := xor8 m.r7 (g (ix (or16 (w16 (w16 m.r4 * 256)) (w16 m.r5)))) == 0, pc := w16 (m.pc + 1), r7 := xor8 m.r7 (g (ix (or16 (w16 (w16 m.r4 * 256)) (w16 m.r5)))) }
theorem pae_0 (m : Mc) (g : Nat → Int) (b1 b2 : Int) : endsAt [0, 1] (Ly.run cx3 3000 [(28, true), (0, true), (13, true), (0, true), (1, true), (9, true)] (sP m g 174 b1 b2)) = some (T [(true && lt16 (or16 (w16 (w16 m.r4 * 256)) (w16 m.r5))), bl (ix (or16 (w16 (w16 m.r4 * 256)) (w16 m.r5))), (true && lt16 (or16 (w16 (w16 m.r4 * 256)) (w16 m.r5))), bl (ix (or16 (w16 (w16 m.r4 * 256)) (w16 m.r5))), m.fc == true, inb m.r7 && inb (g (ix (or16 (w16 (w16 m.r4 * 256)) (w16 m.r5))))], .int .i64 0, 5, hPm (zae_0 m g) (memL g)) := by kernel_rfl
theorem pae_1 (m : Mc) (g : Nat → Int) (b1 b2 : Int) : endsAt [0, 1] (Ly.run cx3 3000 [(28, true), (0, true), (13, true), (0, true), (1, false), (9, true)] (sP m g 174 b1 b2)) = some ([((true && lt16 (or16 (w16 (w16 m.r4 * 256)) (w16 m.r5))), true), (bl (ix (or16 (w16 (w16 m.r4 * 256)) (w16 m.r5))), true), ((true && lt16 (or16 (w16 (w16 m.r4 * 256)) (w16 m.r5))), true), (bl (ix (or16 (w16 (w16 m.r4 * 256)) (w16 m.r5))), true), (m.fc == true, false), (inb m.r7 && inb (g (ix (or16 (w16 (w16 m.r4 * 256)) (w16 m.r5)))), true)], .int .i64 0, 5, hPm (zae_0 m g) (memL g)) := by kernel_rfl
@[simp] def zaf_0 (m : Mc) : Mc := { m with fc := false, fp := par (xor8 m.r7 m.r7), fs := decide (128 ≤ xor8 m.r7 m.r7), fx := false, fz := xor8 m.r7 m.r7 == 0, pc := w16 (m.pc + 1), r7 := xor8 m.r7 m.r7 }
theorem paf_0 (m : Mc) (g : Nat → Int) (b1 b2 : Int) : endsAt [0, 1] (Ly.run cx3 3000 [(22, true), (9, true)] (sP m g 175 b1 b2)) = some (T [m.fc == true, inb m.r7 && inb m.r7], .int .i64 0, 5, hPm (zaf_0 m) (memL g)) := by kernel_rfl
theorem paf_1 (m : Mc) (g : Nat → Int) (b1 b2 : Int) : endsAt [0, 1] (Ly.run cx3 3000 [(22, false), (9, true)] (sP m g 175 b1 b2)) = some ([(m.fc == true, false), (inb m.r7 && inb m.r7, true)], .int .i64 0, 5, hPm (zaf_0 m) (memL g)) := by kernel_rfl
end Go.Proofs.Ytdjmpilegommlaa
namespace Go.Proofs.Ytdjmpilegommlaa
open Go Go.Ly Go.RowKit
end Go.Proofs.Ytdjmpilegommlaa
namespace Go.Proofs.Ytdjmpilegommlaa
open Go Go.Ly Go.RowKit
@[simp] def zb0_0 (m : Mc) : Mc := { m with fc := false, fp := par (or8 m.r7 m.r0), fs := decide (128 ≤ or8 m.r7 m.r0), fx := false, fz := or8 m.r7 m.r0 == 0, pc := w16 (m.pc + 1), r7 := or8 m.r7 m.r0 }
theorem pb0_0 (m : Mc) (g : Nat → Int) (b1 b2 : Int) : endsAt [0, 1] (Ly.run cx3 3000 [(22, true), (10, true)] (sP m g 176 b1 b2)) = some (T [m.fc == true, inb m.r7 && inb m.r0], .int .i64 0, 5, hPm (zb0_0 m) (memL g)) := by kernel_rfl
theorem pb0_1 (m : Mc) (g : Nat → Int) (b1 b2 : Int) : endsAt [0, 1] (Ly.run cx3 3000 [(22, false), (10, true)] (sP m g 176 b1 b2)) = some ([(m.fc == true, false), (inb m.r7 && inb m.r0, true)], .int .i64 0, 5, hPm (zb0_0 m) (memL g)) := by kernel_rfl
@[simp] def zb1_0 (m : Mc) : Mc := { m with fc := false, fp := par (or8 m.r7 m.r1), fs := decide (128 ≤ or8 m.r7 m.r1), fx := false, fz := or8 m.r7 m.r1 == 0, pc := w16 (m.pc + 1), r7 := or8 m.r7 m.r1 }
theorem pb1_0 (m : Mc) (g : Nat → Int) (b1 b2 : Int) : endsAt [0, 1] (Ly.run cx3 3000 [(22, true), (10, true)] (sP m g 177 b1 b2)) = some (T [m.fc == true, inb m.r7 && inb m.r1], .int .i64 0, 5, hPm (zb1_0 m) (memL g)) := by kernel_rfl
theorem pb1_1 (m : Mc) (g : Nat → Int) (b1 b2 : Int) : endsAt [0, 1] (Ly.run cx3 3000 [(22, false), (10, true)] (sP m g 177 b1 b2)) = some ([(m.fc == true, false), (inb m.r7 && inb m.r1, true)], .int .i64 0, 5, hPm (zb1_0 m) (memL g)) := by kernel_rfl
@[simp] def zb2_0 (m : Mc) : Mc := { m with fc := false, fp := par (or8 m.r7 m.r2), fs := decide (128 ≤ or8 m.r7 m.r2), fx := false, fz := or8 m.r7 m.r2 == 0, pc := w16 (m.pc + 1), r7 := or8 m.r7 m.r2 }
theorem pb2_0 (m : Mc) (g : Nat → Int) (b1 b2 : Int) : endsAt [0, 1] (Ly.run cx3 3000 [(22, true), (10, true)] (sP m g 178 b1 b2)) = some (T [m.fc == true, inb m.r7 && inb m.r2], .int .i64 0, 5, hPm (zb2_0 m) (memL g)) := by kernel_rfl
theorem pb2_1 (m : Mc) (g : Nat → Int) (b1 b2 : Int) : endsAt [0, 1] (Ly.run cx3 3000 [(22, false), (10, true)] (sP m g 178 b1 b2)) = some ([(m.fc == true, false), (inb m.r7 && inb m.r2, true)], .int .i64 0, 5, hPm (zb2_0 m) (memL g)) := by kernel_rfl
@[simp] def zb3_0 (m : Mc) : Mc := { m with fc := false, fp := par (or8 m.r7 m.r3), fs := decide (128 ≤ or8 m.r7 m.r3), fx := false, fz := or8 m.r7 m.r3 == 0, pc := w16 (m.pc + 1), r7 := or8 m.r7 m.r3 }
theorem pb3_0 (m : Mc) (g : Nat → Int) (b1 b2 : Int) : endsAt [0, 1] (Ly.run cx3 3000 [(22, true), (10, true)] (sP m g 179 b1 b2)) = some (T [m.fc == true, inb m.r7 && inb m.r3], .int .i64 0, 5, hPm (zb3_0 m) (memL g)) := by kernel_rfl
theorem pb3_1 (m : Mc) (g : Nat → Int) (b1 b2 : Int) : endsAt [0, 1] (Ly.run cx3 3000 [(22, false), (10, true)] (sP m g 179 b1 b2)) = some ([(m.fc == true, false), (inb m.r7 && inb m.r3, true)], .int .i64 0, 5, hPm (zb3_0 m) (memL g)) := by kernel_rfl
@[simp] def zb4_0 (m : Mc) : Mc := { m with fc := false, fp := par (or8 m.r7 m.r4), fs := decide (128 ≤ or8 m.r7 m.r4), fx := false, fz := or8 m.r7 m.r4 == 0, pc := w16 (m.pc + 1), r7 := or8 m.r7 m.r4 }
theorem pb4_0 (m : Mc) (g : Nat → Int) (b1 b2 : Int) : endsAt [0, 1] (Ly.run cx3 3000 [(22, true), (10, true)] (sP m g 180 b1 b2)) = some (T [m.fc == true, inb m.r7 && inb m.r4], .int .i64 0, 5, hPm (zb4_0 m) (memL g)) := by kernel_rfl
theorem pb4_1 (m : Mc) (g : Nat → Int) (b1 b2 : Int) : endsAt [0, 1] (Ly.run cx3 3000 [(22, false), (10, true)] (sP m g 180 b1 b2)) = some ([(m.fc == true, false), (inb m.r7 && inb m.r4, true)], .int .i64 0, 5, hPm (zb4_0 m) (memL g)) := by kernel_rfl
@[simp] def zb5_0 (m : Mc) : Mc := { m with fc := false, fp := par (or8 m.r7 m.r5), fs := decide (128 ≤ or8 m.r7 m.r5), fx := false, fz := or8 m.r7 m.r5 == 0, pc := w16 (m.pc + 1), r7 := or8 m.r7 m.r5 }
theorem pb5_0 (m : Mc) (g : Nat → Int) (b1 b2 : Int) : endsAt [0, 1] (Ly.run cx3 3000 [(22, true), (10, true)] (sP m g 181 b1 b2)) = some (T [m.fc == true, inb m.r7 && inb m.r5], .int .i64 0, 5, hPm (zb5_0 m) (memL g)) := by kernel_rfl
theorem pb5_1 (m : Mc) (g : Nat → Int) (b1 b2 : Int) : endsAt [0, 1] (Ly.run cx3 3000 [(22, false), (10, true)] (sP m g 181 b1 b2)) = some ([(m.fc == true, false), (inb m.r7 && inb m.r5, true)], .int .i64 0, 5, hPm (zb5_0 m) (memL g)) := by kernel_rfl
@[simp] def zb6_0 (m : Mc) (g : Nat → Int) : Mc := { m with fc := false, fp := par (or8 m.r7 (g (ix (or16 (w16 (w16 m.r4 * 256)) (w16 m.r5))))), fs := decide (128 ≤ or8 m.r7 (g (ix (or16 (w16 (w16 m.r4 * 256)) (w16 m.r5))))), fx := false, fz := or8 m.r7 (g (ix (or16 (w16 (w16 m.r4 * 256)) (w16 m.r5)))) == 0, pc := w16 (m.pc + 1), r7 := or8 m.r7 (g (ix (or16 (w16 (w16 m.r4 * 256)) (w16 m.r5)))) }
theorem pb6_0 (m : Mc) (g : Nat → Int) (b1 b2 : Int) : endsAt [0, 1] (Ly.run cx3 3000 [(28, true), (0, true), (13, true), (0, true), (1, true), (10, true)] (sP m g 182 b1 b2)) = some (T [(true && lt16 (or16 (w16 (w16 m.r4 * 256)) (w16 m.r5))), bl (ix (or16 (w16 (w16 m.r4 * 256)) (w16 m.r5))), (true && lt16 (or16 (w16 (w16 m.r4 * 256)) (w16 m.r5))), bl (ix (or16 (w16 (w16 m.r4 * 256)) (w16 m.r5))), m.fc == true, inb m.r7 && inb (g (ix (or16 (w16 (w16 m.r4 * 256)) (w16 m.r5))))], .int .i64 0, 5, hPm (zb6_0 m g) (memL g)) := by kernel_rfl
theorem pb6_1 (m : Mc) (g : Nat → Int) (b1 b2 : Int) : endsAt [0, 1] (Ly.run cx3 3000 [(28, true), (0, true), (13, true), (0, true), (1, false), (10, true)] (sP m g 182 b1 b2)) = some ([((true && lt16 (or16 (w16 (w16 m.r4 * 256)) (w16 m.r5))), true), (bl (ix (or16 (w16 (w16 m.r4 * 256)) (w16 m.r5))), true), ((true && lt16 (or16 (w16 (w16 m.r4 * 256)) (w16 m.r5))), true), (bl (ix (or16 (w16 (w16 m.r4 * 256)) (w16 m.r5))), true), (m.fc == true, false), (inb m.r7 && inb (g (ix (or16 (w16 (w16 m.r4 * 256)) (w16 m.r5)))), true)], .int .i64 0, 5, hPm (zb6_0 m g) (memL g)) := by kernel_rfl
@[simp] def zb7_0 (m : Mc) : Mc := { m with fc := false, fp := par (or8 m.r7 m.r7), fs := decide (128 ≤ or8 m.r7 m.r7), fx := false, fz := or8 m.r7 m.r7 == 0, pc := w16 (m.pc + 1), r7 := or8 m.r7 m.r7 }
theorem pb7_0 (m : Mc) (g : Nat → Int) (b1 b2 : Int) : endsAt [0, 1] (Ly.run cx3 3000 [(22, true), (10, true)] (sP m g 183 b1 b2)) = some (T [m.fc == true, inb m.r7 && inb m.r7], .int .i64 0, 5, hPm (zb7_0 m) (memL g)) := by kernel_rfl
theorem pb7_1 (m : Mc) (g : Nat → Int) (b1 b2 : Int) : endsAt [0, 1] (Ly.run cx3 3000 [(22, false), (10, true)] (sP m g 183 b1 b2)) = some ([(m.fc == true, false), (inb m.r7 && inb m.r7, true)], .int .i64 0, 5, hPm (zb7_0 m) (memL g)) := by kernel_rfl
@[simp] def zb8_0 (m : Mc) : Mc := { m with fc := decide (m.r7 - m.r0 - 0 < 0), fp := par ((m.r7 - m.r0 - 0) % 256), fs := decide (128 ≤ (m.r7 - m.r0 - 0) % 256), fx := decide (15 < m.r7 % 16 + 15 - m.r0 % 16 + 1), fz := (m.r7 - m.r0 - 0) % 256 == 0, pc := w16 (m.pc + 1) }
theorem pb8_0 (m : Mc) (g : Nat → Int) (b1 b2 : Int) : endsAt [0, 1] (Ly.run cx3 3000 [(22, true), (11, true)] (sP m g 184 b1 b2)) = some (T [m.fc == true, inb m.r7 && inb m.r0], .int .i64 0, 5, hPm (zb8_0 m) (memL g)) := by kernel_rfl
theorem pb8_1 (m : Mc) (g : Nat → Int) (b1 b2 : Int) : endsAt [0, 1] (Ly.run cx3 3000 [(22, false), (11, true)] (sP m g 184 b1 b2)) = some ([(m.fc == true, false), (inb m.r7 && inb m.r0, true)], .int .i64 0, 5, hPm (zb8_0 m) (memL g)) := by kernel_rfl
@[simp] def zb9_0 (m : Mc) : Mc := { m with fc := decide (m.r7 - m.r1 - 0 < 0), fp := par ((m.r7 - m.r1 - 0) % 256), fs := decide (128 ≤ (m.r7 - m.r1 - 0) % 256), fx := decide (15 < m.r7 % 16 + 15 - m.r1 % 16 + 1), fz := (m.r7 - m.r1 - 0) % 256 == 0, pc := w16 (m.pc + 1) }
theorem pb9_0 (m : Mc) (g : Nat → Int) (b1 b2 : Int) : endsAt [0, 1] (Ly.run cx3 3000 [(22, true), (11, true)] (sP m g 185 b1 b2)) = some (T [m.fc == true, inb m.r7 && inb m.r1], .int .i64 0, 5, hPm (zb9_0 m) (memL g)) := by kernel_rfl
theorem pb9_1 (m : Mc) (g : Nat → Int) (b1 b2 : Int) : endsAt [0, 1] (Ly.run cx3 3000 [(22, false), (11, true)] (sP m g 185 b1 b2)) = some ([(m.fc == true, false), (inb m.r7 && inb m.r1, true)], .int .i64 0, 5, hPm (zb9_0 m) (memL g)) := by kernel_rfl
@[simp] def zba_0 (m : Mc) : Mc := { m with fc := decide (m.r7 - m.r2 - 0 < 0), fp := par ((m.r7 - m.r2 - 0) % 256), fs := decide (128 ≤ (m.r7 - m.r2 - 0) % 256), fx := decide (15 < m.r7 % 16 + 15 - m.r2 % 16 + 1), fz := (m.r7 - m.r2 - 0) % 256 == 0, pc := w16 (m.pc + 1) }
theorem pba_0 (m : Mc) (g : Nat → Int) (b1 b2 : Int) : endsAt [0, 1] (Ly.run cx3 3000 [(22, true), (11, true)] (sP m g 186 b1 b2)) = some (T [m.fc == true, inb m.r7 && inb m.r2], .int .i64 0, 5, hPm (zba_0 m) (memL g)) := by kernel_rfl
theorem pba_1 (m : Mc) (g : Nat → Int) (b1 b2 : Int) : endsAt [0, 1] (Ly.run cx3 3000 [(22, false), (11, true)] (sP m g 186 b1 b2)) = some ([(m.fc == true, false), (inb m.r7 && inb m.r2, true)], .int .i64 0, 5, hPm (zba_0 m) (memL g)) := by kernel_rfl
@[simp] def zbb_0 (m : Mc) : Mc := { m with fc := decide (m.r7 - m.r3 - 0 < 0), fp := par ((m.r7 - m.r3 - 0) % 256), fs := decide (128 ≤ (m.r7 - m.r3 - 0) % 256), fx := decide (15 < m.r7 % 16 + 15 - m.r3 % 16 + 1), fz := (m.r7 - m.r3 - 0) % 256 == 0, pc := w16 (m.pc + 1) }
theorem pbb_0 (m : Mc) (g : Nat → Int) (b1 b2 : Int) : endsAt [0, 1] (Ly.run cx3 3000 [(22, true), (11, true)] (sP m g 187 b1 b2)) = some (T [m.fc == true, inb m.r7 && inb m.r3], .int .i64 0, 5, hPm (zbb_0 m) (memL g)) := by kernel_rfl
theorem pbb_1 (m : Mc) (g : Nat → Int) (b1 b2 : Int) : endsAt [0, 1] (Ly.run cx3 3000 [(22, false), (11, true)] (sP m g 187 b1 b2)) = some ([(m.fc == true, false), (inb m.r7 && inb m.r3, true)], .int .i64 0, 5, hPm (zbb_0 m) (memL g)) := by kernel_rfl
@[simp] def zbc_0 (m : Mc) : Mc := { m with fc := decide (m.r7 - m.r4 - 0 < 0), fp := par ((m.r7 - m.r4 - 0) % 256), fs := decide (128 ≤ (m.r7 - m.r4 - 0) % 256), fx := decide (15 < m.r7 % 16 + 15 - m.r4 % 16 + 1), fz := (m.r7 - m.r4 - 0) % 256 == 0, pc := w16 (m.pc + 1) }
theorem pbc_0 (m : Mc) (g : Nat → Int) (b1 b2 : Int) : endsAt [0, 1] (Ly.run cx3 3000 [(22, true), (11, true)] (sP m g 188 b1 b2)) = some (T [m.fc == true, inb m.r7 && inb m.r4], .int .i64 0, 5, hPm (zbc_0 m) (memL g)) := by kernel_rfl
theorem pbc_1 (m : Mc) (g : Nat → Int) (b1 b2 : Int) : endsAt [0, 1] (Ly.run cx3 3000 [(22, false), (11, true)] (sP m g 188 b1 b2)) = some ([(m.fc == true, false), (inb m.r7 && inb m.r4, true)], .int .i64 0, 5, hPm (zbc_0 m) (memL g)) := by kernel_rfl
@[simp] def zbd_0 (m : Mc) : Mc := { m with fc := decide (m.r7 - m.r5 - 0 < 0), fp := par ((m.r7 - m.r5 - 0) % 256), fs := decide (128 ≤ (m.r7 - m.r5 - 0) % 256), fx := decide (15 < m.r7 % 16 + 15 - m.r5 % 16 + 1), fz := (m.r7 - m.r5 - 0) % 256 == 0, pc := w16 (m.pc + 1) }
theorem pbd_0 (m : Mc) (g : Nat → Int) (b1 b2 : Int) : endsAt [0, 1] (Ly.run cx3 3000 [(22, true), (11, true)] (sP m g 189 b1 b2)) = some (T [m.fc == true, inb m.r7 && inb m.r5], .int .i64 0, 5, hPm (zbd_0 m) (memL g)) := by kernel_rfl
theorem pbd_1 (m : Mc) (g : Nat → Int) (b1 b2 : Int) : endsAt [0, 1] (Ly.run cx3 3000 [(22, false), (11, true)] (sP m g 189 b1 b2)) = some ([(m.fc == true, false), (inb m.r7 && inb m.r5, true)], .int .i64 0, 5, hPm (zbd_0 m) (memL g)) := by kernel_rfl
@[simp] def zbe_0 (m : Mc) (g : Nat → Int) : Mc := { m with fc := decide (m.r7 - g (ix (or16 (w16 (w16 m.r4 * 256)) (w16 m.r5))) - 0 < 0), fp := par ((m.r7 - g (ix (or16 (w16 (w16 m.r4 * 256)) (w16 m.r5))) - 0) % 256), fs := decide (128 ≤ (m.r7 - g (ix (or16 (w16 (w16 m.r4 * 256)) (w16 m.r5))) - 0) % 256), fx := decide (15 < m.r7 % 16 + 15 - g (ix (or16 (w16 (w16 m.r4 * 256)) (w16 m.r5))) % 16 + 1), fz := (m.r7 - g (ix (or16 (w16 (w16 m.r4 * 256)) (w16 m.r5))) - 0) % 256 == 0, pc := w16 (m.pc + 1) }
theorem pbe_0 (m : Mc) (g : Nat → Int) (b1 b2 : Int) : endsAt [0, 1] (Ly.run cx3 3000 [(28, true), (0, true), (13, true), (0, true), (1, true), (11, true)] (sP m g 190 b1 b2)) = some (T [(true && lt16 (or16 (w16 (w16 m.r4 * 256)) (w16 m.r5))), bl (ix (or16 (w16 (w16 m.r4 * 256)) (w16 m.r5))), (true && lt16 (or16 (w16 (w16 m.r4 * 256)) (w16 m.r5))), bl (ix (or16 (w16 (w16 m.r4 * 256)) (w16 m.r5))), m.fc == true, inb m.r7 && inb (g (ix (or16 (w16 (w16 m.r4 * 256)) (w16 m.r5))))], .int .i64 0, 5, hPm (zbe_0 m g) (memL g)) := by kernel_rfl
theorem pbe_1 (m : Mc) (g : Nat → Int) (b1 b2 : Int) : endsAt [0, 1] (Ly.run cx3 3000 [(28, true), (0, true), (13, true), (0, true), (1, false), (11, true)] (sP m g 190 b1 b2)) = some ([((true && lt16 (or16 (w16 (w16 m.r4 * 256)) (w16 m.r5))), true), (bl (ix (or16 (w16 (w16 m.r4 * 256)) (w16 m.r5))), true), ((true && lt16 (or16 (w16 (w16 m.r4 * 256)) (w16 m.r5))), true), (bl (ix (or16 (w16 (w16 m.r4 * 256)) (w16 m.r5))), true), (m.fc == true, false), (inb m.r7 && inb (g (ix (or16 (w16 (w16 m.r4 * 256)) (w16 m.r5)))), true)], .int .i64 0, 5, hPm (zbe_0 m g) (memL g)) := by kernel_rfl
@[simp] def zbf_0 (m : Mc) : Mc := { m with fc := decide (m.r7 - m.r7 - 0 < 0), fp := par ((m.r7 - m.r7 - 0) % 256), fs := decide (128 ≤ (m.r7 - m.r7 - 0) % 256), fx := decide (15 < m.r7 % 16 + 15 - m.r7 % 16 + 1), fz := (m.r7 - m.r7 - 0) % 256 == 0, pc := w16 (m.pc + 1) }
theorem pbf_0 (m : Mc) (g : Nat → Int) (b1 b2 : Int) : endsAt [0, 1] (Ly.run cx3 3000 [(22, true), (11, true)] (sP m g 191 b1 b2)) = some (T [m.fc == true, inb m.r7 && inb m.r7], .int .i64 0, 5, hPm (zbf_0 m) (memL g)) := by kernel_rfl
theorem pbf_1 (m : Mc) (g : Nat → Int) (b1 b2 : Int) : endsAt [0, 1] (Ly.run cx3 3000 [(22, false), (11, true)] (sP m g 191 b1 b2)) = some ([(m.fc == true, false), (inb m.r7 && inb m.r7, true)], .int .i64 0, 5, hPm (zbf_0 m) (memL g)) := by kernel_rfl
end Go.Proofs.Ytdjmpilegommlaa
namespace Go.Proofs.Ytdjmpilegommlaa
open Go Go.Ly Go.RowKit
end Go.Proofs.Ytdjmpilegommlaa
namespace Go.Proofs.Ytdjmpilegommlaa
open Go Go.Ly Go.RowKit
@[simp] def zc0_0 (m : Mc) (g : Nat → Int) : Mc := { m with pc := or16 (w16 (g (ix (w16 (w16 (m.sp + 2) - 2))))) (w16 (w16 (g (ix (w16 (w16 (w16 (m.sp + 2) - 2) + 1)))) * 256)), sp := w16 (m.sp + 2) }
@[simp] def zc1_0 (m : Mc) (g : Nat → Int) : Mc := { m with pc := w16 (m.pc + 1), r0 := w8 ((or16 (w16 (g (ix (w16 (w16 (m.sp + 2) - 2))))) (w16 (w16 (g (ix (w16 (w16 (w16 (m.sp + 2) - 2) + 1)))) * 256))).fdiv 256), r1 := w8 (or16 (w16 (g (ix (w16 (w16 (m.sp + 2) - 2))))) (w16 (w16 (g (ix (w16 (w16 (w16 (m.sp + 2) - 2) + 1)))) * 256))), sp := w16 (m.sp + 2) }
theorem pc1_0 (m : Mc) (g : Nat → Int) (b1 b2 : Int) : endsAt [0, 1] (Ly.run cx3 3000 [(45, true), (0, true), (0, true), (0, true)] (sP m g 193 b1 b2)) = some (T [rg (w16 (w16 (m.sp + 2) - 2)), bl (ix (w16 (w16 (m.sp + 2) - 2))), rg (w16 (w16 (w16 (m.sp + 2) - 2) + 1)), bl (ix (w16 (w16 (w16 (m.sp + 2) - 2) + 1)))], .int .i64 0, 5, hPm (zc1_0 m g) (memL g)) := by kernel_rfl
theorem pc2_0 (m : Mc) (g : Nat → Int) (b1 b2 : Int) : endsAt [0, 1] (Ly.run cx3 3000 [(51, true)] (sP m g 194 b1 b2)) = some (T [m.fz == false], .int .i64 0, 6, hPm { m with pc := or16 (w16 (or16 0 (w16 b2) * 256)) (w16 b1) } (memL g)) := by kernel_rfl
theorem pc2_1 (m : Mc) (g : Nat → Int) (b1 b2 : Int) : endsAt [0, 1] (Ly.run cx3 3000 [(51, false)] (sP m g 194 b1 b2)) = some ([(m.fz == false, false)], .int .i64 0, 6, hPm { m with pc := w16 (m.pc + 3) } (memL g)) := by kernel_rfl
theorem pc3_0 (m : Mc) (g : Nat → Int) (b1 b2 : Int) : endsAt [0, 1] (Ly.run cx3 3000 [] (sP m g 195 b1 b2)) = some (T [], .int .i64 0, 5, hPm { m with pc := or16 (w16 (or16 0 (w16 b2) * 256)) (w16 b1) } (memL g)) := by kernel_rfl
theorem pc4_0 (m : Mc) (g : Nat → Int) (b1 b2 : Int) : endsAt [0, 1] (Ly.run cx3 3000 [(53, true), (3, true), (0, true), (2, true), (0, true)] (sP m g 196 b1 b2)) = some (T [m.fz == false, rg (w16 (m.sp - 2)), bl (ix (w16 (m.sp - 2))), rg (w16 (w16 (m.sp - 2) + 1)), bl (ix (w16 (w16 (m.sp - 2) + 1)))], .int .i64 0, 7, hPm { m with pc := or16 (w16 (or16 0 (w16 b2) * 256)) (w16 b1), sp := w16 (m.sp - 2) } (M2 g (ix (w16 (m.sp - 2))) (w8 (w16 (m.pc + 3))) (ix (w16 (w16 (m.sp - 2) + 1))) (w8 ((w16 (m.pc + 3)).fdiv 256)))) := by kernel_rfl
theorem pc4_1 (m : Mc) (g : Nat → Int) (b1 b2 : Int) : endsAt [0, 1] (Ly.run cx3 3000 [(53, false)] (sP m g 196 b1 b2)) = some ([(m.fz == false, false)], .int .i64 0, 6, hPm { m with pc := w16 (m.pc + 3) } (memL g)) := by kernel_rfl
@[simp] def zc5_0 (m : Mc) : Mc := { m with pc := w16 (m.pc + 1), sp := w16 (m.sp - 2) }
theorem pc5_0 (m : Mc) (g : Nat → Int) (b1 b2 : Int) : endsAt [0, 1] (Ly.run cx3 3000 [(59, true), (0, true), (2, true), (0, true)] (sP m g 197 b1 b2)) = some (T [rg (w16 (m.sp - 2)), bl (ix (w16 (m.sp - 2))), rg (w16 (w16 (m.sp - 2) + 1)), bl (ix (w16 (w16 (m.sp - 2) + 1)))], .int .i64 0, 6, hPm (zc5_0 m) (M2 g (ix (w16 (m.sp - 2))) (w8 (or16 (w16 (w16 m.r0 * 256)) (w16 m.r1))) (ix (w16 (w16 (m.sp - 2) + 1))) (w8 ((or16 (w16 (w16 m.r0 * 256)) (w16 m.r1)).fdiv 256)))) := by kernel_rfl
@[simp] def zc6_0 (m : Mc) (g : Nat → Int) : Mc := { m with fc := decide (255 < m.r7 + w8 (or16 0 (w16 (g (at1 m.pc 1)))) + 0), fp := par ((m.r7 + w8 (or16 0 (w16 (g (at1 m.pc 1)))) + 0) % 256), fs := decide (128 ≤ (m.r7 + w8 (or16 0 (w16 (g (at1 m.pc 1)))) + 0) % 256), fx := decide (15 < m.r7 % 16 + w8 (or16 0 (w16 (g (at1 m.pc 1)))) % 16 + 0), fz := (m.r7 + w8 (or16 0 (w16 (g (at1 m.pc 1)))) + 0) % 256 == 0, pc := w16 (m.pc + 2), r7 := (m.r7 + w8 (or16 0 (w16 (g (at1 m.pc 1)))) + 0) % 256 }
@[simp] def zc6_1 (m : Mc) (b1 : Int) : Mc := { m with fc := decide (255 < m.r7 + w8 (or16 0 (w16 b1)) + 0), fp := par ((m.r7 + w8 (or16 0 (w16 b1)) + 0) % 256), fs := decide (128 ≤ (m.r7 + w8 (or16 0 (w16 b1)) + 0) % 256), fx := decide (15 < m.r7 % 16 + w8 (or16 0 (w16 b1)) % 16 + 0), fz := (m.r7 + w8 (or16 0 (w16 b1)) + 0) % 256 == 0, pc := w16 (m.pc + 2), r7 := (m.r7 + w8 (or16 0 (w16 b1)) + 0) % 256 }
theorem pc6_0 (m : Mc) (g : Nat → Int) (b1 b2 : Int) : endsAt [0, 1] (Ly.run cx3 3000 [(21, true), (5, true)] (sP m g 198 b1 b2)) = some (T [m.fc == true, inb m.r7 && inb (w8 (or16 0 (w16 b1)))], .int .i64 0, 5, hPm (zc6_1 m b1) (memL g)) := by kernel_rfl
theorem pc6_1 (m : Mc) (g : Nat → Int) (b1 b2 : Int) : endsAt [0, 1] (Ly.run cx3 3000 [(21, false), (5, true)] (sP m g 198 b1 b2)) = some ([(m.fc == true, false), (inb m.r7 && inb (w8 (or16 0 (w16 b1))), true)], .int .i64 0, 5, hPm (zc6_1 m b1) (memL g)) := by kernel_rfl
theorem pc7_0 (m : Mc) (g : Nat → Int) (b1 b2 : Int) : endsAt [0, 1] (Ly.run cx3 3000 [(44, true), (0, true), (2, true), (0, true)] (sP m g 199 b1 b2)) = some (T [rg (w16 (m.sp - 2)), bl (ix (w16 (m.sp - 2))), rg (w16 (w16 (m.sp - 2) + 1)), bl (ix (w16 (w16 (m.sp - 2) + 1)))], .int .i64 0, 6, hPm { m with pc := 0, sp := w16 (m.sp - 2) } (M2 g (ix (w16 (m.sp - 2))) (w8 (w16 (m.pc + 1))) (ix (w16 (w16 (m.sp - 2) + 1))) (w8 ((w16 (m.pc + 1)).fdiv 256)))) := by kernel_rfl
@[simp] def zc8_0 (m : Mc) (g : Nat → Int) : Mc := { m with pc := or16 (w16 (g (ix (w16 (w16 (m.sp + 2) - 2))))) (w16 (w16 (g (ix (w16 (w16 (w16 (m.sp + 2) - 2) + 1)))) * 256)), sp := w16 (m.sp + 2) }
@[simp] def zc9_0 (m : Mc) (g : Nat → Int) : Mc := { m with pc := or16 (w16 (g (ix (w16 (w16 (m.sp + 2) - 2))))) (w16 (w16 (g (ix (w16 (w16 (w16 (m.sp + 2) - 2) + 1)))) * 256)), sp := w16 (m.sp + 2) }
theorem pca_0 (m : Mc) (g : Nat → Int) (b1 b2 : Int) : endsAt [0, 1] (Ly.run cx3 3000 [(51, true)] (sP m g 202 b1 b2)) = some (T [m.fz == true], .int .i64 0, 6, hPm { m with pc := or16 (w16 (or16 0 (w16 b2) * 256)) (w16 b1) } (memL g)) := by kernel_rfl
theorem pca_1 (m : Mc) (g : Nat → Int) (b1 b2 : Int) : endsAt [0, 1] (Ly.run cx3 3000 [(51, false)] (sP m g 202 b1 b2)) = some ([(m.fz == true, false)], .int .i64 0, 6, hPm { m with pc := w16 (m.pc + 3) } (memL g)) := by kernel_rfl
theorem pcc_0 (m : Mc) (g : Nat → Int) (b1 b2 : Int) : endsAt [0, 1] (Ly.run cx3 3000 [(53, true), (3, true), (0, true), (2, true), (0, true)] (sP m g 204 b1 b2)) = some (T [m.fz == true, rg (w16 (m.sp - 2)), bl (ix (w16 (m.sp - 2))), rg (w16 (w16 (m.sp - 2) + 1)), bl (ix (w16 (w16 (m.sp - 2) + 1)))], .int .i64 0, 7, hPm { m with pc := or16 (w16 (or16 0 (w16 b2) * 256)) (w16 b1), sp := w16 (m.sp - 2) } (M2 g (ix (w16 (m.sp - 2))) (w8 (w16 (m.pc + 3))) (ix (w16 (w16 (m.sp - 2) + 1))) (w8 ((w16 (m.pc + 3)).fdiv 256)))) := by kernel_rfl
theorem pcc_1 (m : Mc) (g : Nat → Int) (b1 b2 : Int) : endsAt [0, 1] (Ly.run cx3 3000 [(53, false)] (sP m g 204 b1 b2)) = some ([(m.fz == true, false)], .int .i64 0, 6, hPm { m with pc := w16 (m.pc + 3) } (memL g)) := by kernel_rfl
theorem pcd_0 (m : Mc) (g : Nat → Int) (b1 b2 : Int) : endsAt [0, 1] (Ly.run cx3 3000 [(50, true), (0, true), (2, true), (0, true)] (sP m g 205 b1 b2)) = some (T [rg (w16 (m.sp - 2)), bl (ix (w16 (m.sp - 2))), rg (w16 (w16 (m.sp - 2) + 1)), bl (ix (w16 (w16 (m.sp - 2) + 1)))], .int .i64 0, 6, hPm { m with pc := or16 (w16 (or16 0 (w16 b2) * 256)) (w16 b1), sp := w16 (m.sp - 2) } (M2 g (ix (w16 (m.sp - 2))) (w8 (w16 (m.pc + 3))) (ix (w16 (w16 (m.sp - 2) + 1))) (w8 ((w16 (m.pc + 3)).fdiv 256)))) := by kernel_rfl
theorem pce_0 (m : Mc) (g : Nat → Int) (b1 b2 : Int) : endsAt [0, 1] (Ly.run cx3 3000 [(21, true), (5, true)] (sP m g 206 b1 b2)) = some (T [m.fc == true, inb m.r7 && inb (w8 (or16 0 (w16 b1)))], .int .i64 0, 5, hPm { m with fc := decide (255 < m.r7 + w8 (or16 0 (w16 b1)) + 1), fp := par ((m.r7 + w8 (or16 0 (w16 b1)) + 1) % 256), fs := decide (128 ≤ (m.r7 + w8 (or16 0 (w16 b1)) + 1) % 256), fx := decide (15 < m.r7 % 16 + w8 (or16 0 (w16 b1)) % 16 + 1), fz := (m.r7 + w8 (or16 0 (w16 b1)) + 1) % 256 == 0, pc := w16 (m.pc + 2), r7 := (m.r7 + w8 (or16 0 (w16 b1)) + 1) % 256 } (memL g)) := by kernel_rfl
theorem pce_1 (m : Mc) (g : Nat → Int) (b1 b2 : Int) : endsAt [0, 1] (Ly.run cx3 3000 [(21, false), (5, true)] (sP m g 206 b1 b2)) = some ([(m.fc == true, false), (inb m.r7 && inb (w8 (or16 0 (w16 b1))), true)], .int .i64 0, 5, hPm { m with fc := decide (255 < m.r7 + w8 (or16 0 (w16 b1)) + 0), fp := par ((m.r7 + w8 (or16 0 (w16 b1)) + 0) % 256), fs := decide (128 ≤ (m.r7 + w8 (or16 0 (w16 b1)) + 0) % 256), fx := decide (15 < m.r7 % 16 + w8 (or16 0 (w16 b1)) % 16 + 0), fz := (m.r7 + w8 (or16 0 (w16 b1)) + 0) % 256 == 0, pc := w16 (m.pc + 2), r7 := (m.r7 + w8 (or16 0 (w16 b1)) + 0) % 256 } (memL g)) := by kernel_rfl
theorem pcf_0 (m : Mc) (g : Nat → Int) (b1 b2 : Int) : endsAt [0, 1] (Ly.run cx3 3000 [(44, true), (0, true), (2, true), (0, true)] (sP m g 207 b1 b2)) = some (T [rg (w16 (m.sp - 2)), bl (ix (w16 (m.sp - 2))), rg (w16 (w16 (m.sp - 2) + 1)), bl (ix (w16 (w16 (m.sp - 2) + 1)))], .int .i64 0, 6, hPm { m with pc := 8, sp := w16 (m.sp - 2) } (M2 g (ix (w16 (m.sp - 2))) (w8 (w16 (m.pc + 1))) (ix (w16 (w16 (m.sp - 2) + 1))) (w8 ((w16 (m.pc + 1)).fdiv 256)))) := by kernel_rfl
end Go.Proofs.Ytdjmpilegommlaa
namespace Go.Proofs.Ytdjmpilegommlaa
open Go Go.Ly Go.RowKit
end Go.Proofs.Ytdjmpilegommlaa
namespace Go.Proofs.Ytdjmpilegommlaa
open Go Go.Ly Go.RowKit
@[simp] def zd0_0 (m : Mc) (g : Nat → Int) : Mc := { m with pc := or16 (w16 (g (ix (w16 (w16 (m.sp + 2) - 2))))) (w16 (w16 (g (ix (w16 (w16 (w16 (m.sp + 2) - 2) + 1)))) * 256)), sp := w16 (m.sp + 2) }
@[simp] def zd1_0 (m : Mc) (g : Nat → Int) : Mc := { m with pc := w16 (m.pc + 1), r2 := w8 ((or16 (w16 (g (ix (w16 (w16 (m.sp + 2) - 2))))) (w16 (w16 (g (ix (w16 (w16 (w16 (m.sp + 2) - 2) + 1)))) * 256))).fdiv 256), r3 := w8 (or16 (w16 (g (ix (w16 (w16 (m.sp + 2) - 2))))) (w16 (w16 (g (ix (w16 (w16 (w16 (m.sp + 2) - 2) + 1)))) * 256))), sp := w16 (m.sp + 2) }
theorem pd1_0 (m : Mc) (g : Nat → Int) (b1 b2 : Int) : endsAt [0, 1] (Ly.run cx3 3000 [(45, true), (0, true), (0, true), (0, true)] (sP m g 209 b1 b2)) = some (T [rg (w16 (w16 (m.sp + 2) - 2)), bl (ix (w16 (w16 (m.sp + 2) - 2))), rg (w16 (w16 (w16 (m.sp + 2) - 2) + 1)), bl (ix (w16 (w16 (w16 (m.sp + 2) - 2) + 1)))], .int .i64 0, 5, hPm (zd1_0 m g) (memL g)) := by kernel_rfl
theorem pd2_0 (m : Mc) (g : Nat → Int) (b1 b2 : Int) : endsAt [0, 1] (Ly.run cx3 3000 [(51, true)] (sP m g 210 b1 b2)) = some (T [m.fc == false], .int .i64 0, 6, hPm { m with pc := or16 (w16 (or16 0 (w16 b2) * 256)) (w16 b1) } (memL g)) := by kernel_rfl
theorem pd2_1 (m : Mc) (g : Nat → Int) (b1 b2 : Int) : endsAt [0, 1] (Ly.run cx3 3000 [(51, false)] (sP m g 210 b1 b2)) = some ([(m.fc == false, false)], .int .i64 0, 6, hPm { m with pc := w16 (m.pc + 3) } (memL g)) := by kernel_rfl
theorem pd4_0 (m : Mc) (g : Nat → Int) (b1 b2 : Int) : endsAt [0, 1] (Ly.run cx3 3000 [(53, true), (3, true), (0, true), (2, true), (0, true)] (sP m g 212 b1 b2)) = some (T [m.fc == false, rg (w16 (m.sp - 2)), bl (ix (w16 (m.sp - 2))), rg (w16 (w16 (m.sp - 2) + 1)), bl (ix (w16 (w16 (m.sp - 2) + 1)))], .int .i64 0, 7, hPm { m with pc := or16 (w16 (or16 0 (w16 b2) * 256)) (w16 b1), sp := w16 (m.sp - 2) } (M2 g (ix (w16 (m.sp - 2))) (w8 (w16 (m.pc + 3))) (ix (w16 (w16 (m.sp - 2) + 1))) (w8 ((w16 (m.pc + 3)).fdiv 256)))) := by kernel_rfl
theorem pd4_1 (m : Mc) (g : Nat → Int) (b1 b2 : Int) : endsAt [0, 1] (Ly.run cx3 3000 [(53, false)] (sP m g 212 b1 b2)) = some ([(m.fc == false, false)], .int .i64 0, 6, hPm { m with pc := w16 (m.pc + 3) } (memL g)) := by kernel_rfl
@[simp] def zd5_0 (m : Mc) : Mc := { m with pc := w16 (m.pc + 1), sp := w16 (m.sp - 2) }
theorem pd5_0 (m : Mc) (g : Nat → Int) (b1 b2 : Int) : endsAt [0, 1] (Ly.run cx3 3000 [(59, true), (0, true), (2, true), (0, true)] (sP m g 213 b1 b2)) = some (T [rg (w16 (m.sp - 2)), bl (ix (w16 (m.sp - 2))), rg (w16 (w16 (m.sp - 2) + 1)), bl (ix (w16 (w16 (m.sp - 2) + 1)))], .int .i64 0, 6, hPm (zd5_0 m) (M2 g (ix (w16 (m.sp - 2))) (w8 (or16 (w16 (w16 m.r2 * 256)) (w16 m.r3))) (ix (w16 (w16 (m.sp - 2) + 1))) (w8 ((or16 (w16 (w16 m.r2 * 256)) (w16 m.r3)).fdiv 256)))) := by kernel_rfl
@[simp] def zd6_0 (m : Mc) (g : Nat → Int) : Mc := { m with fc := decide (m.r7 - w8 (or16 0 (w16 (g (at1 m.pc 1)))) - 0 < 0), fp := par ((m.r7 - w8 (or16 0 (w16 (g (at1 m.pc 1)))) - 0) % 256), fs := decide (128 ≤ (m.r7 - w8 (or16 0 (w16 (g (at1 m.pc 1)))) - 0) % 256), fx := decide (15 < m.r7 % 16 + 15 - w8 (or16 0 (w16 (g (at1 m.pc 1)))) % 16 + 1), fz := (m.r7 - w8 (or16 0 (w16 (g (at1 m.pc 1)))) - 0) % 256 == 0, pc := w16 (m.pc + 2), r7 := (m.r7 - w8 (or16 0 (w16 (g (at1 m.pc 1)))) - 0) % 256 }
@[simp] def zd6_1 (m : Mc) (b1 : Int) : Mc := { m with fc := decide (m.r7 - w8 (or16 0 (w16 b1)) - 0 < 0), fp := par ((m.r7 - w8 (or16 0 (w16 b1)) - 0) % 256), fs := decide (128 ≤ (m.r7 - w8 (or16 0 (w16 b1)) - 0) % 256), fx := decide (15 < m.r7 % 16 + 15 - w8 (or16 0 (w16 b1)) % 16 + 1), fz := (m.r7 - w8 (or16 0 (w16 b1)) - 0) % 256 == 0, pc := w16 (m.pc + 2), r7 := (m.r7 - w8 (or16 0 (w16 b1)) - 0) % 256 }
theorem pd6_0 (m : Mc) (g : Nat → Int) (b1 b2 : Int) : endsAt [0, 1] (Ly.run cx3 3000 [(21, true), (7, true)] (sP m g 214 b1 b2)) = some (T [m.fc == true, inb m.r7 && inb (w8 (or16 0 (w16 b1)))], .int .i64 0, 5, hPm (zd6_1 m b1) (memL g)) := by kernel_rfl
theorem pd6_1 (m : Mc) (g : Nat → Int) (b1 b2 : Int) : endsAt [0, 1] (Ly.run cx3 3000 [(21, false), (7, true)] (sP m g 214 b1 b2)) = some ([(m.fc == true, false), (inb m.r7 && inb (w8 (or16 0 (w16 b1))), true)], .int .i64 0, 5, hPm (zd6_1 m b1) (memL g)) := by kernel_rfl
@[simp] def zd7_0 (m : Mc) : Mc := { m with pc := 16, sp := w16 (m.sp - 2) }
theorem pd7_0 (m : Mc) (g : Nat → Int) (b1 b2 : Int) : endsAt [0, 1] (Ly.run cx3 3000 [(44, true), (0, true), (2, true), (0, true)] (sP m g 215 b1 b2)) = some (T [rg (w16 (m.sp - 2)), bl (ix (w16 (m.sp - 2))), rg (w16 (w16 (m.sp - 2) + 1)), bl (ix (w16 (w16 (m.sp - 2) + 1)))], .int .i64 0, 6, hPm (zd7_0 m) (M2 g (ix (w16 (m.sp - 2))) (w8 (w16 (m.pc + 1))) (ix (w16 (w16 (m.sp - 2) + 1))) (w8 ((w16 (m.pc + 1)).fdiv 256)))) := by kernel_rfl
@[simp] def zd8_0 (m : Mc) (g : Nat → Int) : Mc := { m with pc := or16 (w16 (g (ix (w16 (w16 (m.sp + 2) - 2))))) (w16 (w16 (g (ix (w16 (w16 (w16 (m.sp + 2) - 2) + 1)))) * 256)), sp := w16 (m.sp + 2) }
theorem pda_0 (m : Mc) (g : Nat → Int) (b1 b2 : Int) : endsAt [0, 1] (Ly.run cx3 3000 [(51, true)] (sP m g 218 b1 b2)) = some (T [m.fc == true], .int .i64 0, 6, hPm { m with pc := or16 (w16 (or16 0 (w16 b2) * 256)) (w16 b1) } (memL g)) := by kernel_rfl
theorem pda_1 (m : Mc) (g : Nat → Int) (b1 b2 : Int) : endsAt [0, 1] (Ly.run cx3 3000 [(51, false)] (sP m g 218 b1 b2)) = some ([(m.fc == true, false)], .int .i64 0, 6, hPm { m with pc := w16 (m.pc + 3) } (memL g)) := by kernel_rfl
theorem pdc_0 (m : Mc) (g : Nat → Int) (b1 b2 : Int) : endsAt [0, 1] (Ly.run cx3 3000 [(53, true), (3, true), (0, true), (2, true), (0, true)] (sP m g 220 b1 b2)) = some (T [m.fc == true, rg (w16 (m.sp - 2)), bl (ix (w16 (m.sp - 2))), rg (w16 (w16 (m.sp - 2) + 1)), bl (ix (w16 (w16 (m.sp - 2) + 1)))], .int .i64 0, 7, hPm { m with pc := or16 (w16 (or16 0 (w16 b2) * 256)) (w16 b1), sp := w16 (m.sp - 2) } (M2 g (ix (w16 (m.sp - 2))) (w8 (w16 (m.pc + 3))) (ix (w16 (w16 (m.sp - 2) + 1))) (w8 ((w16 (m.pc + 3)).fdiv 256)))) := by kernel_rfl
theorem pdc_1 (m : Mc) (g : Nat → Int) (b1 b2 : Int) : endsAt [0, 1] (Ly.run cx3 3000 [(53, false)] (sP m g 220 b1 b2)) = some ([(m.fc == true, false)], .int .i64 0, 6, hPm { m with pc := w16 (m.pc + 3) } (memL g)) := by kernel_rfl
theorem pde_0 (m : Mc) (g : Nat → Int) (b1 b2 : Int) : endsAt [0, 1] (Ly.run cx3 3000 [(21, true), (7, true)] (sP m g 222 b1 b2)) = some (T [m.fc == true, inb m.r7 && inb (w8 (or16 0 (w16 b1)))], .int .i64 0, 5, hPm { m with fc := decide (m.r7 - w8 (or16 0 (w16 b1)) - 1 < 0), fp := par ((m.r7 - w8 (or16 0 (w16 b1)) - 1) % 256), fs := decide (128 ≤ (m.r7 - w8 (or16 0 (w16 b1)) - 1) % 256), fx := decide (15 < m.r7 % 16 + 15 - w8 (or16 0 (w16 b1)) % 16 + 0), fz := (m.r7 - w8 (or16 0 (w16 b1)) - 1) % 256 == 0, pc := w16 (m.pc + 2), r7 := (m.r7 - w8 (or16 0 (w16 b1)) - 1) % 256 } (memL g)) := by kernel_rfl
theorem pde_1 (m : Mc) (g : Nat → Int) (b1 b2 : Int) : endsAt [0, 1] (Ly.run cx3 3000 [(21, false), (7, true)] (sP m g 222 b1 b2)) = some ([(m.fc == true, false), (inb m.r7 && inb (w8 (or16 0 (w16 b1))), true)], .int .i64 0, 5, hPm { m with fc := decide (m.r7 - w8 (or16 0 (w16 b1)) - 0 < 0), fp := par ((m.r7 - w8 (or16 0 (w16 b1)) - 0) % 256), fs := decide (128 ≤ (m.r7 - w8 (or16 0 (w16 b1)) - 0) % 256), fx := decide (15 < m.r7 % 16 + 15 - w8 (or16 0 (w16 b1)) % 16 + 1), fz := (m.r7 - w8 (or16 0 (w16 b1)) - 0) % 256 == 0, pc := w16 (m.pc + 2), r7 := (m.r7 - w8 (or16 0 (w16 b1)) - 0) % 256 } (memL g)) := by kernel_rfl
@[simp] def zdf_0 (m : Mc) : Mc := { m with pc := 24, sp := w16 (m.sp - 2) }
theorem pdf_0 (m : Mc) (g : Nat → Int) (b1 b2 : Int) : endsAt [0, 1] (Ly.run cx3 3000 [(44, true), (0, true), (2, true), (0, true)] (sP m g 223 b1 b2)) = some (T [rg (w16 (m.sp - 2)), bl (ix (w16 (m.sp - 2))), rg (w16 (w16 (m.sp - 2) + 1)), bl (ix (w16 (w16 (m.sp - 2) + 1)))], .int .i64 0, 6, hPm (zdf_0 m) (M2 g (ix (w16 (m.sp - 2))) (w8 (w16 (m.pc + 1))) (ix (w16 (w16 (m.sp - 2) + 1))) (w8 ((w16 (m.pc + 1)).fdiv 256)))) := by kernel_rfl
end Go.Proofs.Ytdjmpilegommlaa
namespace Go.Proofs.Ytdjmpilegommlaa
open Go Go.Ly Go.RowKit
end Go.Proofs.Ytdjmpilegommlaa
namespace Go.Proofs.Ytdjmpilegommlaa
open Go Go.Ly Go.RowKit
@[simp] def ze0_0 (m : Mc) (g : Nat → Int) : Mc := { m with pc := or16 (w16 (g (ix (w16 (w16 (m.sp + 2) - 2))))) (w16 (w16 (g (ix (w16 (w16 (w16 (m.sp + 2) - 2) + 1)))) * 256)), sp := w16 (m.sp + 2) }
@[simp] def ze1_0 (m : Mc) (g : Nat → Int) : Mc := { m with pc := w16 (m.pc + 1), r4 := w8 ((or16 (w16 (g (ix (w16 (w16 (m.sp + 2) - 2))))) (w16 (w16 (g (ix (w16 (w16 (w16 (m.sp + 2) - 2) + 1)))) * 256))).fdiv 256), r5 := w8 (or16 (w16 (g (ix (w16 (w16 (m.sp + 2) - 2))))) (w16 (w16 (g (ix (w16 (w16 (w16 (m.sp + 2) - 2) + 1)))) * 256))), sp := w16 (m.sp + 2) }
theorem pe1_0 (m : Mc) (g : Nat → Int) (b1 b2 : Int) : endsAt [0, 1] (Ly.run cx3 3000 [(45, true), (0, true), (0, true), (0, true)] (sP m g 225 b1 b2)) = some (T [rg (w16 (w16 (m.sp + 2) - 2)), bl (ix (w16 (w16 (m.sp + 2) - 2))), rg (w16 (w16 (w16 (m.sp + 2) - 2) + 1)), bl (ix (w16 (w16 (w16 (m.sp + 2) - 2) + 1)))], .int .i64 0, 5, hPm (ze1_0 m g) (memL g)) := by kernel_rfl
theorem pe2_0 (m : Mc) (g : Nat → Int) (b1 b2 : Int) : endsAt [0, 1] (Ly.run cx3 3000 [(51, true)] (sP m g 226 b1 b2)) = some (T [m.fp == false], .int .i64 0, 6, hPm { m with pc := or16 (w16 (or16 0 (w16 b2) * 256)) (w16 b1) } (memL g)) := by kernel_rfl
theorem pe2_1 (m : Mc) (g : Nat → Int) (b1 b2 : Int) : endsAt [0, 1] (Ly.run cx3 3000 [(51, false)] (sP m g 226 b1 b2)) = some ([(m.fp == false, false)], .int .i64 0, 6, hPm { m with pc := w16 (m.pc + 3) } (memL g)) := by kernel_rfl
@[simp] def ze3_0 (m : Mc) (g : Nat → Int) : Mc := { m with pc := w16 (m.pc + 1), r4 := w8 ((or16 (w16 (g (ix m.sp))) (w16 (w16 (g (ix (w16 (m.sp + 1)))) * 256))).fdiv 256), r5 := w8 (or16 (w16 (g (ix m.sp))) (w16 (w16 (g (ix (w16 (m.sp + 1)))) * 256))) }
theorem pe3_0 (m : Mc) (g : Nat → Int) (b1 b2 : Int) : endsAt [0, 1] (Ly.run cx3 3000 [(60, true), (0, true), (0, true), (0, true), (8, true), (0, true), (2, true), (0, true)] (sP m g 227 b1 b2)) = some (T [rg (m.sp), bl (ix m.sp), rg (w16 (m.sp + 1)), bl (ix (w16 (m.sp + 1))), rg (m.sp), bl (ix m.sp), rg (w16 (m.sp + 1)), bl (ix (w16 (m.sp + 1)))], .int .i64 0, 6, hPm (ze3_0 m g) (M2 g (ix m.sp) (w8 (or16 (w16 (w16 m.r4 * 256)) (w16 m.r5))) (ix (w16 (m.sp + 1))) (w8 ((or16 (w16 (w16 m.r4 * 256)) (w16 m.r5)).fdiv 256)))) := by kernel_rfl
theorem pe4_0 (m : Mc) (g : Nat → Int) (b1 b2 : Int) : endsAt [0, 1] (Ly.run cx3 3000 [(53, true), (3, true), (0, true), (2, true), (0, true)] (sP m g 228 b1 b2)) = some (T [m.fp == false, rg (w16 (m.sp - 2)), bl (ix (w16 (m.sp - 2))), rg (w16 (w16 (m.sp - 2) + 1)), bl (ix (w16 (w16 (m.sp - 2) + 1)))], .int .i64 0, 7, hPm { m with pc := or16 (w16 (or16 0 (w16 b2) * 256)) (w16 b1), sp := w16 (m.sp - 2) } (M2 g (ix (w16 (m.sp - 2))) (w8 (w16 (m.pc + 3))) (ix (w16 (w16 (m.sp - 2) + 1))) (w8 ((w16 (m.pc + 3)).fdiv 256)))) := by kernel_rfl
theorem pe4_1 (m : Mc) (g : Nat → Int) (b1 b2 : Int) : endsAt [0, 1] (Ly.run cx3 3000 [(53, false)] (sP m g 228 b1 b2)) = some ([(m.fp == false, false)], .int .i64 0, 6, hPm { m with pc := w16 (m.pc + 3) } (memL g)) := by kernel_rfl
@[simp] def ze5_0 (m : Mc) : Mc := { m with pc := w16 (m.pc + 1), sp := w16 (m.sp - 2) }
theorem pe5_0 (m : Mc) (g : Nat → Int) (b1 b2 : Int) : endsAt [0, 1] (Ly.run cx3 3000 [(59, true), (0, true), (2, true), (0, true)] (sP m g 229 b1 b2)) = some (T [rg (w16 (m.sp - 2)), bl (ix (w16 (m.sp - 2))), rg (w16 (w16 (m.sp - 2) + 1)), bl (ix (w16 (w16 (m.sp - 2) + 1)))], .int .i64 0, 6, hPm (ze5_0 m) (M2 g (ix (w16 (m.sp - 2))) (w8 (or16 (w16 (w16 m.r4 * 256)) (w16 m.r5))) (ix (w16 (w16 (m.sp - 2) + 1))) (w8 ((or16 (w16 (w16 m.r4 * 256)) (w16 m.r5)).fdiv 256)))) := by kernel_rfl
@[simp] def ze6_0 (m : Mc) (g : Nat → Int) : Mc := { m with fc := false, fp := par (and8 m.r7 (w8 (or16 0 (w16 (g (at1 m.pc 1)))))), fs := decide (128 ≤ and8 m.r7 (w8 (or16 0 (w16 (g (at1 m.pc 1)))))), fx := and8 (or8 m.r7 (w8 (or16 0 (w16 (g (at1 m.pc 1)))))) 8 != 0, fz := and8 m.r7 (w8 (or16 0 (w16 (g (at1 m.pc 1))))) == 0, pc := w16 (m.pc + 2), r7 := and8 m.r7 (w8 (or16 0 (w16 (g (at1 m.pc 1))))) }
@[simp] def ze6_1 (m : Mc) (b1 : Int) : Mc := { m with fc := false, fp := par (and8 m.r7 (w8 (or16 0 (w16 b1)))), fs := decide (128 ≤ and8 m.r7 (w8 (or16 0 (w16 b1)))), fx := and8 (or8 m.r7 (w8 (or16 0 (w16 b1)))) 8 != 0, fz := and8 m.r7 (w8 (or16 0 (w16 b1))) == 0, pc := w16 (m.pc + 2), r7 := and8 m.r7 (w8 (or16 0 (w16 b1))) }
theorem pe6_0 (m : Mc) (g : Nat → Int) (b1 b2 : Int) : endsAt [0, 1] (Ly.run cx3 3000 [(21, true), (8, true)] (sP m g 230 b1 b2)) = some (T [m.fc == true, inb m.r7 && inb (w8 (or16 0 (w16 b1)))], .int .i64 0, 5, hPm (ze6_1 m b1) (memL g)) := by kernel_rfl
theorem pe6_1 (m : Mc) (g : Nat → Int) (b1 b2 : Int) : endsAt [0, 1] (Ly.run cx3 3000 [(21, false), (8, true)] (sP m g 230 b1 b2)) = some ([(m.fc == true, false), (inb m.r7 && inb (w8 (or16 0 (w16 b1))), true)], .int .i64 0, 5, hPm (ze6_1 m b1) (memL g)) := by kernel_rfl
@[simp] def ze7_0 (m : Mc) : Mc := { m with pc := 32, sp := w16 (m.sp - 2) }
theorem pe7_0 (m : Mc) (g : Nat → Int) (b1 b2 : Int) : endsAt [0, 1] (Ly.run cx3 3000 [(44, true), (0, true), (2, true), (0, true)] (sP m g 231 b1 b2)) = some (T [rg (w16 (m.sp - 2)), bl (ix (w16 (m.sp - 2))), rg (w16 (w16 (m.sp - 2) + 1)), bl (ix (w16 (w16 (m.sp - 2) + 1)))], .int .i64 0, 6, hPm (ze7_0 m) (M2 g (ix (w16 (m.sp - 2))) (w8 (w16 (m.pc + 1))) (ix (w16 (w16 (m.sp - 2) + 1))) (w8 ((w16 (m.pc + 1)).fdiv 256)))) := by kernel_rfl
@[simp] def ze8_0 (m : Mc) (g : Nat → Int) : Mc := { m with pc := or16 (w16 (g (ix (w16 (w16 (m.sp + 2) - 2))))) (w16 (w16 (g (ix (w16 (w16 (w16 (m.sp + 2) - 2) + 1)))) * 256)), sp := w16 (m.sp + 2) }
@[simp] def ze9_0 (m : Mc) : Mc := { m with pc := or16 (w16 (w16 m.r4 * 256)) (w16 m.r5) }
theorem pea_0 (m : Mc) (g : Nat → Int) (b1 b2 : Int) : endsAt [0, 1] (Ly.run cx3 3000 [(51, true)] (sP m g 234 b1 b2)) = some (T [m.fp == true], .int .i64 0, 6, hPm { m with pc := or16 (w16 (or16 0 (w16 b2) * 256)) (w16 b1) } (memL g)) := by kernel_rfl
theorem pea_1 (m : Mc) (g : Nat → Int) (b1 b2 : Int) : endsAt [0, 1] (Ly.run cx3 3000 [(51, false)] (sP m g 234 b1 b2)) = some ([(m.fp == true, false)], .int .i64 0, 6, hPm { m with pc := w16 (m.pc + 3) } (memL g)) := by kernel_rfl
@[simp] def zeb_0 (m : Mc) : Mc := { m with pc := w16 (m.pc + 1), r2 := w8 ((or16 (w16 (w16 m.r4 * 256)) (w16 m.r5)).fdiv 256), r3 := w8 (or16 (w16 (w16 m.r4 * 256)) (w16 m.r5)), r4 := w8 ((or16 (w16 (w16 m.r2 * 256)) (w16 m.r3)).fdiv 256), r5 := w8 (or16 (w16 (w16 m.r2 * 256)) (w16 m.r3)) }
theorem peb_0 (m : Mc) (g : Nat → Int) (b1 b2 : Int) : endsAt [0, 1] (Ly.run cx3 3000 [] (sP m g 235 b1 b2)) = some (T [], .int .i64 0, 5, hPm (zeb_0 m) (memL g)) := by kernel_rfl
theorem pec_0 (m : Mc) (g : Nat → Int) (b1 b2 : Int) : endsAt [0, 1] (Ly.run cx3 3000 [(53, true), (3, true), (0, true), (2, true), (0, true)] (sP m g 236 b1 b2)) = some (T [m.fp == true, rg (w16 (m.sp - 2)), bl (ix (w16 (m.sp - 2))), rg (w16 (w16 (m.sp - 2) + 1)), bl (ix (w16 (w16 (m.sp - 2) + 1)))], .int .i64 0, 7, hPm { m with pc := or16 (w16 (or16 0 (w16 b2) * 256)) (w16 b1), sp := w16 (m.sp - 2) } (M2 g (ix (w16 (m.sp - 2))) (w8 (w16 (m.pc + 3))) (ix (w16 (w16 (m.sp - 2) + 1))) (w8 ((w16 (m.pc + 3)).fdiv 256)))) := by kernel_rfl
theorem pec_1 (m : Mc) (g : Nat → Int) (b1 b2 : Int) : endsAt [0, 1] (Ly.run cx3 3000 [(53, false)] (sP m g 236 b1 b2)) = some ([(m.fp == true, false)], .int .i64 0, 6, hPm { m with pc := w16 (m.pc + 3) } (memL g)) := by kernel_rfl
@[simp] def zee_0 (m : Mc) (g : Nat → Int) : Mc := { m with fc := false, fp := par (xor8 m.r7 (w8 (or16 0 (w16 (g (at1 m.pc 1)))))), fs := decide (128 ≤ xor8 m.r7 (w8 (or16 0 (w16 (g (at1 m.pc 1)))))), fx := false, fz := xor8 m.r7 (w8 (or16 0 (w16 (g (at1 m.pc 1))))) == 0, pc := w16 (m.pc + 2), r7 := xor8 m.r7 (w8 (or16 0 (w16 (g (at1 m.pc 1))))) }
@[simp] def zee_1 (m : Mc) (b1 : Int) : Mc := { m with fc := false, fp := par (xor8 m.r7 (w8 (or16 0 (w16 b1)))), fs := decide (128 ≤ xor8 m.r7 (w8 (or16 0 (w16 b1)))), fx := false, fz := xor8 m.r7 (w8 (or16 0 (w16 b1))) == 0, pc := w16 (m.pc + 2), r7 := xor8 m.r7 (w8 (or16 0 (w16 b1))) }
theorem pee_0 (m : Mc) (g : Nat → Int) (b1 b2 : Int) : endsAt [0, 1] (Ly.run cx3 3000 [(21, true), (9, true)] (sP m g 238 b1 b2)) = some (T [m.fc == true, inb m.r7 && inb (w8 (or16 0 (w16 b1)))], .int .i64 0, 5, hPm (zee_1 m b1) (memL g)) := by kernel_rfl
theorem pee_1 (m : Mc) (g : Nat → Int) (b1 b2 : Int) : endsAt [0, 1] (Ly.run cx3 3000 [(21, false), (9, true)] (sP m g 238 b1 b2)) = some ([(m.fc == true, false), (inb m.r7 && inb (w8 (or16 0 (w16 b1))), true)], .int .i64 0, 5, hPm (zee_1 m b1) (memL g)) := by kernel_rfl
@[simp] def zef_0 (m : Mc) : Mc := { m with pc := 40, sp := w16 (m.sp - 2) }
theorem pef_0 (m : Mc) (g : Nat → Int) (b1 b2 : Int) : endsAt [0, 1] (Ly.run cx3 3000 [(44, true), (0, true), (2, true), (0, true)] (sP m g 239 b1 b2)) = some (T [rg (w16 (m.sp - 2)), bl (ix (w16 (m.sp - 2))), rg (w16 (w16 (m.sp - 2) + 1)), bl (ix (w16 (w16 (m.sp - 2) + 1)))], .int .i64 0, 6, hPm (zef_0 m) (M2 g (ix (w16 (m.sp - 2))) (w8 (w16 (m.pc + 1))) (ix (w16 (w16 (m.sp - 2) + 1))) (w8 ((w16 (m.pc + 1)).fdiv 256)))) := by kernel_rfl
end Go.Proofs.Ytdjmpilegommlaa
namespace Go.Proofs.Ytdjmpilegommlaa
open Go Go.Ly Go.RowKit
end Go.Proofs.Ytdjmpilegommlaa
namespace Go.Proofs.Ytdjmpilegommlaa
open Go Go.Ly Go.RowKit
@[simp] def zf0_0 (m : Mc) (g : Nat → Int) : Mc := { m with pc := or16 (w16 (g (ix (w16 (w16 (m.sp + 2) - 2))))) (w16 (w16 (g (ix (w16 (w16 (w16 (m.sp + 2) - 2) + 1)))) * 256)), sp := w16 (m.sp + 2) }
@[simp] def zf1_0 (m : Mc) (g : Nat → Int) : Mc := { m with fc := w8 (or16 (w16 (g (ix (w16 (w16 (m.sp + 2) - 2))))) (w16 (w16 (g (ix (w16 (w16 (w16 (m.sp + 2) - 2) + 1)))) * 256))) % 2 == 1, fp := w8 (or16 (w16 (g (ix (w16 (w16 (m.sp + 2) - 2))))) (w16 (w16 (g (ix (w16 (w16 (w16 (m.sp + 2) - 2) + 1)))) * 256))) / 4 % 2 == 1, fs := decide (128 ≤ w8 (or16 (w16 (g (ix (w16 (w16 (m.sp + 2) - 2))))) (w16 (w16 (g (ix (w16 (w16 (w16 (m.sp + 2) - 2) + 1)))) * 256)))), fx := w8 (or16 (w16 (g (ix (w16 (w16 (m.sp + 2) - 2))))) (w16 (w16 (g (ix (w16 (w16 (w16 (m.sp + 2) - 2) + 1)))) * 256))) / 16 % 2 == 1, fz := w8 (or16 (w16 (g (ix (w16 (w16 (m.sp + 2) - 2))))) (w16 (w16 (g (ix (w16 (w16 (w16 (m.sp + 2) - 2) + 1)))) * 256))) / 64 % 2 == 1, pc := w16 (m.pc + 1), r7 := w8 ((or16 (w16 (g (ix (w16 (w16 (m.sp + 2) - 2))))) (w16 (w16 (g (ix (w16 (w16 (w16 (m.sp + 2) - 2) + 1)))) * 256))).fdiv 256), sp := w16 (m.sp + 2) }
theorem pf1_0 (m : Mc) (g : Nat → Int) (b1 b2 : Int) : endsAt [0, 1] (Ly.run cx3 3000 [(45, true), (0, true), (0, true), (0, true), (3, true)] (sP m g 241 b1 b2)) = some (T [rg (w16 (w16 (m.sp + 2) - 2)), bl (ix (w16 (w16 (m.sp + 2) - 2))), rg (w16 (w16 (w16 (m.sp + 2) - 2) + 1)), bl (ix (w16 (w16 (w16 (m.sp + 2) - 2) + 1))), inb (w8 (or16 (w16 (g (ix (w16 (w16 (m.sp + 2) - 2))))) (w16 (w16 (g (ix (w16 (w16 (w16 (m.sp + 2) - 2) + 1)))) * 256))))], .int .i64 0, 5, hPm (zf1_0 m g) (memL g)) := by kernel_rfl
theorem pf2_0 (m : Mc) (g : Nat → Int) (b1 b2 : Int) : endsAt [0, 1] (Ly.run cx3 3000 [(51, true)] (sP m g 242 b1 b2)) = some (T [m.fs == false], .int .i64 0, 6, hPm { m with pc := or16 (w16 (or16 0 (w16 b2) * 256)) (w16 b1) } (memL g)) := by kernel_rfl
theorem pf2_1 (m : Mc) (g : Nat → Int) (b1 b2 : Int) : endsAt [0, 1] (Ly.run cx3 3000 [(51, false)] (sP m g 242 b1 b2)) = some ([(m.fs == false, false)], .int .i64 0, 6, hPm { m with pc := w16 (m.pc + 3) } (memL g)) := by kernel_rfl
@[simp] def zf3_0 (m : Mc) : Mc := { m with ie := false, pc := w16 (m.pc + 1) }
theorem pf3_0 (m : Mc) (g : Nat → Int) (b1 b2 : Int) : endsAt [0, 1] (Ly.run cx3 3000 [] (sP m g 243 b1 b2)) = some (T [], .int .i64 0, 5, hPm (zf3_0 m) (memL g)) := by kernel_rfl
theorem pf4_0 (m : Mc) (g : Nat → Int) (b1 b2 : Int) : endsAt [0, 1] (Ly.run cx3 3000 [(53, true), (3, true), (0, true), (2, true), (0, true)] (sP m g 244 b1 b2)) = some (T [m.fs == false, rg (w16 (m.sp - 2)), bl (ix (w16 (m.sp - 2))), rg (w16 (w16 (m.sp - 2) + 1)), bl (ix (w16 (w16 (m.sp - 2) + 1)))], .int .i64 0, 7, hPm { m with pc := or16 (w16 (or16 0 (w16 b2) * 256)) (w16 b1), sp := w16 (m.sp - 2) } (M2 g (ix (w16 (m.sp - 2))) (w8 (w16 (m.pc + 3))) (ix (w16 (w16 (m.sp - 2) + 1))) (w8 ((w16 (m.pc + 3)).fdiv 256)))) := by kernel_rfl
theorem pf4_1 (m : Mc) (g : Nat → Int) (b1 b2 : Int) : endsAt [0, 1] (Ly.run cx3 3000 [(53, false)] (sP m g 244 b1 b2)) = some ([(m.fs == false, false)], .int .i64 0, 6, hPm { m with pc := w16 (m.pc + 3) } (memL g)) := by kernel_rfl
@[simp] def zf5_0 (m : Mc) : Mc := { m with pc := w16 (m.pc + 1), sp := w16 (m.sp - 2) }
theorem pf5_0 (m : Mc) (g : Nat → Int) (b1 b2 : Int) : endsAt [0, 1] (Ly.run cx3 3000 [(59, true), (0, true), (2, true), (0, true)] (sP m g 245 b1 b2)) = some (T [rg (w16 (m.sp - 2)), bl (ix (w16 (m.sp - 2))), rg (w16 (w16 (m.sp - 2) + 1)), bl (ix (w16 (w16 (m.sp - 2) + 1)))], .int .i64 0, 6, hPm (zf5_0 m) (M2 g (ix (w16 (m.sp - 2))) (w8 (or16 (w16 (w16 m.r7 * 256)) (w16 (128 * cI m.fs + 64 * cI m.fz + 16 * cI m.fx + 4 * cI m.fp + 2 + cI m.fc)))) (ix (w16 (w16 (m.sp - 2) + 1))) (w8 ((or16 (w16 (w16 m.r7 * 256)) (w16 (128 * cI m.fs + 64 * cI m.fz + 16 * cI m.fx + 4 * cI m.fp + 2 + cI m.fc))).fdiv 256)))) := by kernel_rfl
@[simp] def zf6_0 (m : Mc) (g : Nat → Int) : Mc := { m with fc := false, fp := par (or8 m.r7 (w8 (or16 0 (w16 (g (at1 m.pc 1)))))), fs := decide (128 ≤ or8 m.r7 (w8 (or16 0 (w16 (g (at1 m.pc 1)))))), fx := false, fz := or8 m.r7 (w8 (or16 0 (w16 (g (at1 m.pc 1))))) == 0, pc := w16 (m.pc + 2), r7 := or8 m.r7 (w8 (or16 0 (w16 (g (at1 m.pc 1))))) }
@[simp] def zf6_1 (m : Mc) (b1 : Int) : Mc := { m with fc := false, fp := par (or8 m.r7 (w8 (or16 0 (w16 b1)))), fs := decide (128 ≤ or8 m.r7 (w8 (or16 0 (w16 b1)))), fx := false, fz := or8 m.r7 (w8 (or16 0 (w16 b1))) == 0, pc := w16 (m.pc + 2), r7 := or8 m.r7 (w8 (or16 0 (w16 b1))) }
theorem pf6_0 (m : Mc) (g : Nat → Int) (b1 b2 : Int) : endsAt [0, 1] (Ly.run cx3 3000 [(21, true), (10, true)] (sP m g 246 b1 b2)) = some (T [m.fc == true, inb m.r7 && inb (w8 (or16 0 (w16 b1)))], .int .i64 0, 5, hPm (zf6_1 m b1) (memL g)) := by kernel_rfl
theorem pf6_1 (m : Mc) (g : Nat → Int) (b1 b2 : Int) : endsAt [0, 1] (Ly.run cx3 3000 [(21, false), (10, true)] (sP m g 246 b1 b2)) = some ([(m.fc == true, false), (inb m.r7 && inb (w8 (or16 0 (w16 b1))), true)], .int .i64 0, 5, hPm (zf6_1 m b1) (memL g)) := by kernel_rfl
@[simp] def zf7_0 (m : Mc) : Mc := { m with pc := 48, sp := w16 (m.sp - 2) }
theorem pf7_0 (m : Mc) (g : Nat → Int) (b1 b2 : Int) : endsAt [0, 1] (Ly.run cx3 3000 [(44, true), (0, true), (2, true), (0, true)] (sP m g 247 b1 b2)) = some (T [rg (w16 (m.sp - 2)), bl (ix (w16 (m.sp - 2))), rg (w16 (w16 (m.sp - 2) + 1)), bl (ix (w16 (w16 (m.sp - 2) + 1)))], .int .i64 0, 6, hPm (zf7_0 m) (M2 g (ix (w16 (m.sp - 2))) (w8 (w16 (m.pc + 1))) (ix (w16 (w16 (m.sp - 2) + 1))) (w8 ((w16 (m.pc + 1)).fdiv 256)))) := by kernel_rfl
@[simp] def zf8_0 (m : Mc) (g : Nat → Int) : Mc := { m with pc := or16 (w16 (g (ix (w16 (w16 (m.sp + 2) - 2))))) (w16 (w16 (g (ix (w16 (w16 (w16 (m.sp + 2) - 2) + 1)))) * 256)), sp := w16 (m.sp + 2) }
@[simp] def zf9_0 (m : Mc) : Mc := { m with pc := w16 (m.pc + 1), sp := or16 (w16 (w16 m.r4 * 256)) (w16 m.r5) }
theorem pf9_0 (m : Mc) (g : Nat → Int) (b1 b2 : Int) : endsAt [0, 1] (Ly.run cx3 3000 [] (sP m g 249 b1 b2)) = some (T [], .int .i64 0, 5, hPm (zf9_0 m) (memL g)) := by kernel_rfl
theorem pfa_0 (m : Mc) (g : Nat → Int) (b1 b2 : Int) : endsAt [0, 1] (Ly.run cx3 3000 [(51, true)] (sP m g 250 b1 b2)) = some (T [m.fs == true], .int .i64 0, 6, hPm { m with pc := or16 (w16 (or16 0 (w16 b2) * 256)) (w16 b1) } (memL g)) := by kernel_rfl
theorem pfa_1 (m : Mc) (g : Nat → Int) (b1 b2 : Int) : endsAt [0, 1] (Ly.run cx3 3000 [(51, false)] (sP m g 250 b1 b2)) = some ([(m.fs == true, false)], .int .i64 0, 6, hPm { m with pc := w16 (m.pc + 3) } (memL g)) := by kernel_rfl
@[simp] def zfb_0 (m : Mc) : Mc := { m with ie := true, pc := w16 (m.pc + 1) }
theorem pfb_0 (m : Mc) (g : Nat → Int) (b1 b2 : Int) : endsAt [0, 1] (Ly.run cx3 3000 [] (sP m g 251 b1 b2)) = some (T [], .int .i64 0, 5, hPm (zfb_0 m) (memL g)) := by kernel_rfl
theorem pfc_0 (m : Mc) (g : Nat → Int) (b1 b2 : Int) : endsAt [0, 1] (Ly.run cx3 3000 [(53, true), (3, true), (0, true), (2, true), (0, true)] (sP m g 252 b1 b2)) = some (T [m.fs == true, rg (w16 (m.sp - 2)), bl (ix (w16 (m.sp - 2))), rg (w16 (w16 (m.sp - 2) + 1)), bl (ix (w16 (w16 (m.sp - 2) + 1)))], .int .i64 0, 7, hPm { m with pc := or16 (w16 (or16 0 (w16 b2) * 256)) (w16 b1), sp := w16 (m.sp - 2) } (M2 g (ix (w16 (m.sp - 2))) (w8 (w16 (m.pc + 3))) (ix (w16 (w16 (m.sp - 2) + 1))) (w8 ((w16 (m.pc + 3)).fdiv 256)))) := by kernel_rfl
theorem pfc_1 (m : Mc) (g : Nat → Int) (b1 b2 : Int) : endsAt [0, 1] (Ly.run cx3 3000 [(53, false)] (sP m g 252 b1 b2)) = some ([(m.fs == true, false)], .int .i64 0, 6, hPm { m with pc := w16 (m.pc + 3) } (memL g)) := by kernel_rfl
@[simp] def zfe_0 (m : Mc) (g : Nat → Int) : Mc := { m with fc := decide (m.r7 - w8 (or16 0 (w16 (g (at1 m.pc 1)))) - 0 < 0), fp := par ((m.r7 - w8 (or16 0 (w16 (g (at1 m.pc 1)))) - 0) % 256), fs := decide (128 ≤ (m.r7 - w8 (or16 0 (w16 (g (at1 m.pc 1)))) - 0) % 256), fx := decide (15 < m.r7 % 16 + 15 - w8 (or16 0 (w16 (g (at1 m.pc 1)))) % 16 + 1), fz := (m.r7 - w8 (or16 0 (w16 (g (at1 m.pc 1)))) - 0) % 256 == 0, pc := w16 (m.pc + 2) }
@[simp] def zfe_1 (m : Mc) (b1 : Int) : Mc := { m with fc := decide (m.r7 - w8 (or16 0 (w16 b1)) - 0 < 0), fp := par ((m.r7 - w8 (or16 0 (w16 b1)) - 0) % 256), fs := decide (128 ≤ (m.r7 - w8 (or16 0 (w16 b1)) - 0) % 256), fx := decide (15 < m.r7 % 16 + 15 - w8 (or16 0 (w16 b1)) % 16 + 1), fz := (m.r7 - w8 (or16 0 (w16 b1)) - 0) % 256 == 0, pc := w16 (m.pc + 2) }
theorem pfe_0 (m : Mc) (g : Nat → Int) (b1 b2 : Int) : endsAt [0, 1] (Ly.run cx3 3000 [(21, true), (11, true)] (sP m g 254 b1 b2)) = some (T [m.fc == true, inb m.r7 && inb (w8 (or16 0 (w16 b1)))], .int .i64 0, 5, hPm (zfe_1 m b1) (memL g)) := by kernel_rfl
theorem pfe_1 (m : Mc) (g : Nat → Int) (b1 b2 : Int) : endsAt [0, 1] (Ly.run cx3 3000 [(21, false), (11, true)] (sP m g 254 b1 b2)) = some ([(m.fc == true, false), (inb m.r7 && inb (w8 (or16 0 (w16 b1))), true)], .int .i64 0, 5, hPm (zfe_1 m b1) (memL g)) := by kernel_rfl
@[simp] def zff_0 (m : Mc) : Mc := { m with pc := 56, sp := w16 (m.sp - 2) }
theorem pff_0 (m : Mc) (g : Nat → Int) (b1 b2 : Int) : endsAt [0, 1] (Ly.run cx3 3000 [(44, true), (0, true), (2, true), (0, true)] (sP m g 255 b1 b2)) = some (T [rg (w16 (m.sp - 2)), bl (ix (w16 (m.sp - 2))), rg (w16 (w16 (m.sp - 2) + 1)), bl (ix (w16 (w16 (m.sp - 2) + 1)))], .int .i64 0, 6, hPm (zff_0 m) (M2 g (ix (w16 (m.sp - 2))) (w8 (w16 (m.pc + 1))) (ix (w16 (w16 (m.sp - 2) + 1))) (w8 ((w16 (m.pc + 1)).fdiv 256)))) := by kernel_rfl
end Go.Proofs.Ytdjmpilegommlaa
namespace Go.Proofs.Ytdjmpilegommlaa
open Go Go.Ly Go.RowKit
end Go.Proofs.Ytdjmpilegommlaa
namespace Go.Proofs.Ytdjmpilegommlaa
open Go Go.Ly Go.RowKit
def tabI : Option Value → Int → Bool
  | some (.int .i64 x), b => x == b
  | _, _ => false
theorem tabI_eq {o : Option Value} {b : Int} (h : tabI o b = true) : o = some (.int .i64 b) := by
  unfold tabI at h
  split at h
  · simp at h; subst h; rfl
  · cases h
def tabC (T : Int → Int) (l : List Value) : Option (Bool × Value) := match l with
  | [.int .u8 op] => some (inb op, .int .i64 (T op))
  | _ => none
theorem tab_ans {f : Nat} {fn : Func} {T : Int → Int} (hf : env.bare.fn.get f = some fn) (hl : (Nat.ble 1 fn.ntmps && Nat.blt fn.ntmps 1000000) = true)
    (h : ∀ n : Nat, n < 256 → tabI (Ly.run env.bare 60000 [] (Ly.start fn [.int .u8 (n : Int)] H0)).val? (T (n : Int)) = true) : Answers Try.prog f (tabC T) := by
  intro args g v h' hg
  unfold tabC at h'
  split at h'
  · rename_i op
    simp only [Option.some.injEq, Prod.mk.injEq] at h'
    obtain ⟨rfl, rfl⟩ := h'
    rw [inb_iff] at hg
    obtain ⟨n, rfl⟩ := Int.eq_ofNat_of_zero_le hg.1
    refine ⟨by simp [plain, plainL], by simp [plain], fun w => ?_⟩
    exact calls_plain (by simp [VRL, VR]) (fun ρ v' h => by simpa [VR] using h) (LCalls_run (args := [.int .u8 (n : Int)]) (Env.bare_ok envOk) 60000 hf hl (tabI_eq (h n (by omega)))) w
  · cases h'
def usesL : List Nat := [0, 0, 0, 0, 0, 0, 0, 0, 31, 0, 0, 0, 0, 0, 0, 0, 31, 0, 0, 0, 0, 0, 0, 16, 31, 0, 0, 0, 0, 0, 0, 16, 31, 0, 0, 0, 0, 0, 0, 20, 31, 0, 0, 0, 0, 0, 0, 0, 31, 0, 0, 0, 0, 0, 0, 0, 31, 0, 0, 0, 0, 0, 0, 16, 0, 0, 0, 0, 0, 0, 0, 0, 0, 0, 0, 0, 0, 0, 0, 0, 0, 0, 0, 0, 0, 0, 0, 0, 0, 0, 0, 0, 0, 0, 0, 0, 0, 0, 0, 0, 0, 0, 0, 0, 0, 0, 0, 0, 0, 0, 0, 0, 0, 0, 0, 0, 0, 0, 0, 0, 0, 0, 0, 0, 0, 0, 0, 0, 0, 0, 0, 0, 0, 0, 0, 0, 16, 16, 16, 16, 16, 16, 16, 16, 0, 0, 0, 0, 0, 0, 0, 0, 16, 16, 16, 16, 16, 16, 16, 16, 0, 0, 0, 0, 0, 0, 0, 0, 0, 0, 0, 0, 0, 0, 0, 0, 0, 0, 0, 0, 0, 0, 0, 0, 0, 0, 0, 0, 0, 0, 0, 0, 2, 0, 2, 0, 2, 0, 0, 0, 2, 0, 2, 31, 2, 0, 16, 0, 16, 0, 16, 0, 16, 0, 0, 0, 16, 31, 16, 0, 16, 31, 16, 0, 8, 0, 8, 0, 8, 0, 0, 0, 8, 0, 8, 0, 8, 31, 0, 0, 1, 0, 1, 0, 1, 31, 0, 0, 1, 0, 1, 0, 1, 31, 0, 0]
def usesT (op : Int) : Int := ((usesL[op.toNat]?).getD 0 : Nat)
def setsL : List Nat := [0, 0, 0, 0, 15, 15, 0, 16, 0, 16, 0, 0, 15, 15, 0, 16, 0, 0, 0, 0, 15, 15, 0, 16, 0, 16, 0, 0, 15, 15, 0, 16, 0, 0, 0, 0, 15, 15, 0, 31, 0, 16, 0, 0, 15, 15, 0, 0, 0, 0, 0, 0, 15, 15, 0, 16, 0, 16, 0, 0, 15, 15, 0, 16, 0, 0, 0, 0, 0, 0, 0, 0, 0, 0, 0, 0, 0, 0, 0, 0, 0, 0, 0, 0, 0, 0, 0, 0, 0, 0, 0, 0, 0, 0, 0, 0, 0, 0, 0, 0, 0, 0, 0, 0, 0, 0, 0, 0, 0, 0, 0, 0, 0, 0, 0, 0, 0, 0, 0, 0, 0, 0, 0, 0, 0, 0, 0, 0, 31, 31, 31, 31, 31, 31, 31, 31, 31, 31, 31, 31, 31, 31, 31, 31, 31, 31, 31, 31, 31, 31, 31, 31, 31, 31, 31, 31, 31, 31, 31, 31, 31, 31, 31, 31, 31, 31, 31, 31, 31, 31, 31, 31, 31, 31, 31, 31, 31, 31, 31, 31, 31, 31, 31, 31, 31, 31, 31, 31, 31, 31, 31, 31, 0, 0, 0, 0, 0, 0, 31, 0, 0, 0, 0, 0, 0, 0, 31, 0, 0, 0, 0, 0, 0, 0, 31, 0, 0, 0, 0, 0, 0, 0, 31, 0, 0, 0, 0, 0, 0, 0, 31, 0, 0, 0, 0, 0, 0, 0, 31, 0, 0, 31, 0, 0, 0, 0, 31, 0, 0, 0, 0, 0, 0, 0, 31, 0]
def setsT (op : Int) : Int := ((setsL[op.toNat]?).getD 0 : Nat)
end Go.Proofs.Ytdjmpilegommlaa
namespace Go.Proofs.Ytdjmpilegommlaa
open Go Go.Ly Go.RowKit
end Go.Proofs.Ytdjmpilegommlaa
namespace Go.Proofs.Ytdjmpilegommlaa
open Go Go.Ly Go.RowKit
def nilS : Value := .slice none 0 0
def cellsPb (b : Nat) (m : Mc) (i o : Value) : List Value := [.int .u8 m.r0, .int .u8 m.r1, .int .u8 m.r2, .int .u8 m.r3, .int .u8 m.r4, .int .u8 m.r5, .int .u8 0, .int .u8 m.r7, .bool m.fs, .bool m.fz, .bool m.fx, .bool m.fp, .bool m.fc, .int .u16 m.sp, .int .u16 m.pc, .bool m.ie, .bool m.halt, i, o, sl b 65536]
theorem noP (b : Nat) (m : Mc) (i o : Value) : noTokL (cellsPb b m i o) = (noTok i && noTok o) := by simp [cellsPb, noTokL, noTok, sl]
def StQ (m : Mc) (g : Nat → Int) (m' : Mc) (k : Int) : Prop := ∀ (H : Heap) (p b : Nat), H.get p = some (.cells (cellsPb b m nilS nilS) 53) → H.get b = some (memL g) → p ≠ b → H.lock = 0 → Ly.Clean H → H.next + 64 < big → LCalls Try.prog 23 [ptr p] H (fun u K => u = .int .i64 k ∧ K.lock = 0 ∧ Ly.Clean K ∧ K.next = H.next + 62 ∧ (∃ iv ov, K.get p = some (.cells (cellsPb b m' iv ov) 53)) ∧ ∀ i, i < H.next → i ≠ p → i ≠ b → K.get i = H.get i)
theorem Stp.q {m m' : Mc} {g g' : Nat → Int} {k : Int} (he : Stp m g m' g' k) : StQ m g m' k := by
  intro H p b h1 h2 hpb hl hc hb
  refine LCalls.ltn fun hlt hsm => ?_
  have hnp := hlt _ _ h1
  have hnd : [p, b].Nodup := by simp [hpb]
  have hget := fun i => Heap.get_put (H := H) (o := .cells (tokAt [17, 18] 0 (cellsPb b m nilS nilS)) 53) (Nat.lt_trans hnp hsm) i
  have hs : Sit (H.put p (.cells (tokAt [17, 18] 0 (cellsPb b m nilS nilS)) 53)) (hP m g) [p, b] := by
    refine ⟨hl, rfl, hnd, fun i o hi => ?_⟩
    rcases i with _ | _ | i
    · simp only [hP, List.getElem?_cons_zero, Option.some.injEq] at hi; subst hi
      show (H.put p _).get p = _
      rw [hget, if_pos rfl]; rfl
    · simp only [hP, List.getElem?_cons_succ, List.getElem?_cons_zero, Option.some.injEq] at hi; subst hi
      show (H.put p _).get b = _
      rw [hget, if_neg hpb.symm, h2]; rfl
    · simp [hP] at hi
  have key : LCalls Try.prog 23 [ptr p] H _ := Ends.madeTok (c := cellsPb b m nilS nilS) (t := 53) (ps := [17, 18]) (b0 := p) (L := [p, b]) he (by rfl) hl h1 (by simp) hs hb hc (by rfl) (by rfl) (by rfl) (by
    intro o ho x hx
    simp only [hP, List.mem_cons, List.not_mem_nil, or_false] at ho
    rcases ho with rfl | rfl <;> (simp only [Option.some.injEq] at hx; subst hx)
    · refine ⟨rfl, ?_⟩
      show noTokL (cellsPb b m' nilS nilS) = true
      rw [noP]; rfl
    · exact ⟨rfl, rfl⟩)
  refine key.mono ?_
  rintro u K ⟨rfl, hM⟩
  exact ⟨rfl, hM.lock, hM.clean, by rw [hM.next]; rfl, ⟨_, _, hM.now 0 0 _ rfl rfl⟩, fun i hi hp hb => hM.old i hi (by simp [hp, hb])⟩
def hQ (m : Mc) (g : Nat → Int) : List (Option LO) := [some (.cells (cellsP m nilS nilS) 53), some (memL g)]
def sQ (m : Mc) (g : Nat → Int) (b0 b1 b2 : Int) : St := atSt Try.f23 kP none 2 (slots 130 [(0, ptr 0), (53, .slice (some ⟨2, 0, none⟩) 3 3)]) ((mkH (hQ m g)).new (.cells [.int .u8 b0, .int .u8 b1, .int .u8 b2] 5))
theorem juncQ (m : Mc) (g : Nat → Int) : haltF [0, 53] dP (Ly.run (haltAt cx3 43) 300 pathP (Ly.start Try.f23 [ptr 0] (mkH (hQ m g)))) = (true, tP m, true, (Try.f23, kP, none, 2), slots 130 [(0, ptr 0), (53, .slice (some ⟨2, 0, none⟩) 3 3)], (mkH (hQ m g)).new (.cells [.int .u8 (g (0 + m.pc.toNat * 1)), .int .u8 (g (at1 m.pc 1)), .int .u8 (g (at1 m.pc 2))] 5)) := by kernel_rfl
end Go.Proofs.Ytdjmpilegommlaa
namespace Go.Proofs.Ytdjmpilegommlaa
open Go Go.Ly Go.RowKit
theorem tab9_0 : ((List.range 8).all fun i => tabI (Ly.run env.bare 60000 [] (Ly.start Try.f9 [.int .u8 (((0 + i) : Nat) : Int)] H0)).val? (usesT (((0 + i) : Nat) : Int))) = true := by kernel_rfl
theorem tab9_1 : ((List.range 8).all fun i => tabI (Ly.run env.bare 60000 [] (Ly.start Try.f9 [.int .u8 (((8 + i) : Nat) : Int)] H0)).val? (usesT (((8 + i) : Nat) : Int))) = true := by kernel_rfl
theorem tab9_2 : ((List.range 8).all fun i => tabI (Ly.run env.bare 60000 [] (Ly.start Try.f9 [.int .u8 (((16 + i) : Nat) : Int)] H0)).val? (usesT (((16 + i) : Nat) : Int))) = true := by kernel_rfl
theorem tab9_3 : ((List.range 8).all fun i => tabI (Ly.run env.bare 60000 [] (Ly.start Try.f9 [.int .u8 (((24 + i) : Nat) : Int)] H0)).val? (usesT (((24 + i) : Nat) : Int))) = true := by kernel_rfl
theorem tab9_4 : ((List.range 8).all fun i => tabI (Ly.run env.bare 60000 [] (Ly.start Try.f9 [.int .u8 (((32 + i) : Nat) : Int)] H0)).val? (usesT (((32 + i) : Nat) : Int))) = true := by kernel_rfl
theorem tab9_5 : ((List.range 8).all fun i => tabI (Ly.run env.bare 60000 [] (Ly.start Try.f9 [.int .u8 (((40 + i) : Nat) : Int)] H0)).val? (usesT (((40 + i) : Nat) : Int))) = true := by kernel_rfl
theorem tab9_6 : ((List.range 8).all fun i => tabI (Ly.run env.bare 60000 [] (Ly.start Try.f9 [.int .u8 (((48 + i) : Nat) : Int)] H0)).val? (usesT (((48 + i) : Nat) : Int))) = true := by kernel_rfl
theorem tab9_7 : ((List.range 8).all fun i => tabI (Ly.run env.bare 60000 [] (Ly.start Try.f9 [.int .u8 (((56 + i) : Nat) : Int)] H0)).val? (usesT (((56 + i) : Nat) : Int))) = true := by kernel_rfl
theorem tab9_8 : ((List.range 8).all fun i => tabI (Ly.run env.bare 60000 [] (Ly.start Try.f9 [.int .u8 (((64 + i) : Nat) : Int)] H0)).val? (usesT (((64 + i) : Nat) : Int))) = true := by kernel_rfl
theorem tab9_9 : ((List.range 8).all fun i => tabI (Ly.run env.bare 60000 [] (Ly.start Try.f9 [.int .u8 (((72 + i) : Nat) : Int)] H0)).val? (usesT (((72 + i) : Nat) : Int))) = true := by kernel_rfl
theorem tab9_10 : ((List.range 8).all fun i => tabI (Ly.run env.bare 60000 [] (Ly.start Try.f9 [.int .u8 (((80 + i) : Nat) : Int)] H0)).val? (usesT (((80 + i) : Nat) : Int))) = true := by kernel_rfl
theorem tab9_11 : ((List.range 8).all fun i => tabI (Ly.run env.bare 60000 [] (Ly.start Try.f9 [.int .u8 (((88 + i) : Nat) : Int)] H0)).val? (usesT (((88 + i) : Nat) : Int))) = true := by kernel_rfl
theorem tab9_12 : ((List.range 8).all fun i => tabI (Ly.run env.bare 60000 [] (Ly.start Try.f9 [.int .u8 (((96 + i) : Nat) : Int)] H0)).val? (usesT (((96 + i) : Nat) : Int))) = true := by kernel_rfl
theorem tab9_13 : ((List.range 8).all fun i => tabI (Ly.run env.bare 60000 [] (Ly.start Try.f9 [.int .u8 (((104 + i) : Nat) : Int)] H0)).val? (usesT (((104 + i) : Nat) : Int))) = true := by kernel_rfl
theorem tab9_14 : ((List.range 8).all fun i => tabI (Ly.run env.bare 60000 [] (Ly.start Try.f9 [.int .u8 (((112 + i) : Nat) : Int)] H0)).val? (usesT (((112 + i) : Nat) : Int))) = true := by kernel_rfl
theorem tab9_15 : ((List.range 8).all fun i => tabI (Ly.run env.bare 60000 [] (Ly.start Try.f9 [.int .u8 (((120 + i) : Nat) : Int)] H0)).val? (usesT (((120 + i) : Nat) : Int))) = true := by kernel_rfl
theorem tab9_16 : ((List.range 8).all fun i => tabI (Ly.run env.bare 60000 [] (Ly.start Try.f9 [.int .u8 (((128 + i) : Nat) : Int)] H0)).val? (usesT (((128 + i) : Nat) : Int))) = true := by kernel_rfl
theorem tab9_17 : ((List.range 8).all fun i => tabI (Ly.run env.bare 60000 [] (Ly.start Try.f9 [.int .u8 (((136 + i) : Nat) : Int)] H0)).val? (usesT (((136 + i) : Nat) : Int))) = true := by kernel_rfl
theorem tab9_18 : ((List.range 8).all fun i => tabI (Ly.run env.bare 60000 [] (Ly.start Try.f9 [.int .u8 (((144 + i) : Nat) : Int)] H0)).val? (usesT (((144 + i) : Nat) : Int))) = true := by kernel_rfl
theorem tab9_19 : ((List.range 8).all fun i => tabI (Ly.run env.bare 60000 [] (Ly.start Try.f9 [.int .u8 (((152 + i) : Nat) : Int)] H0)).val? (usesT (((152 + i) : Nat) : Int))) = true := by kernel_rfl
theorem tab9_20 : ((List.range 8).all fun i => tabI (Ly.run env.bare 60000 [] (Ly.start Try.f9 [.int .u8 (((160 + i) : Nat) : Int)] H0)).val? (usesT (((160 + i) : Nat) : Int))) = true := by kernel_rfl
theorem tab9_21 : ((List.range 8).all fun i => tabI (Ly.run env.bare 60000 [] (Ly.start Try.f9 [.int .u8 (((168 + i) : Nat) : Int)] H0)).val? (usesT (((168 + i) : Nat) : Int))) = true := by kernel_rfl
theorem tab9_22 : ((List.range 8).all fun i => tabI (Ly.run env.bare 60000 [] (Ly.start Try.f9 [.int .u8 (((176 + i) : Nat) : Int)] H0)).val? (usesT (((176 + i) : Nat) : Int))) = true := by kernel_rfl
theorem tab9_23 : ((List.range 8).all fun i => tabI (Ly.run env.bare 60000 [] (Ly.start Try.f9 [.int .u8 (((184 + i) : Nat) : Int)] H0)).val? (usesT (((184 + i) : Nat) : Int))) = true := by kernel_rfl
theorem tab9_24 : ((List.range 8).all fun i => tabI (Ly.run env.bare 60000 [] (Ly.start Try.f9 [.int .u8 (((192 + i) : Nat) : Int)] H0)).val? (usesT (((192 + i) : Nat) : Int))) = true := by kernel_rfl
theorem tab9_25 : ((List.range 8).all fun i => tabI (Ly.run env.bare 60000 [] (Ly.start Try.f9 [.int .u8 (((200 + i) : Nat) : Int)] H0)).val? (usesT (((200 + i) : Nat) : Int))) = true := by kernel_rfl
theorem tab9_26 : ((List.range 8).all fun i => tabI (Ly.run env.bare 60000 [] (Ly.start Try.f9 [.int .u8 (((208 + i) : Nat) : Int)] H0)).val? (usesT (((208 + i) : Nat) : Int))) = true := by kernel_rfl
theorem tab9_27 : ((List.range 8).all fun i => tabI (Ly.run env.bare 60000 [] (Ly.start Try.f9 [.int .u8 (((216 + i) : Nat) : Int)] H0)).val? (usesT (((216 + i) : Nat) : Int))) = true := by kernel_rfl
theorem tab9_28 : ((List.range 8).all fun i => tabI (Ly.run env.bare 60000 [] (Ly.start Try.f9 [.int .u8 (((224 + i) : Nat) : Int)] H0)).val? (usesT (((224 + i) : Nat) : Int))) = true := by kernel_rfl
theorem tab9_29 : ((List.range 8).all fun i => tabI (Ly.run env.bare 60000 [] (Ly.start Try.f9 [.int .u8 (((232 + i) : Nat) : Int)] H0)).val? (usesT (((232 + i) : Nat) : Int))) = true := by kernel_rfl
theorem tab9_30 : ((List.range 8).all fun i => tabI (Ly.run env.bare 60000 [] (Ly.start Try.f9 [.int .u8 (((240 + i) : Nat) : Int)] H0)).val? (usesT (((240 + i) : Nat) : Int))) = true := by kernel_rfl
theorem tab9_31 : ((List.range 8).all fun i => tabI (Ly.run env.bare 60000 [] (Ly.start Try.f9 [.int .u8 (((248 + i) : Nat) : Int)] H0)).val? (usesT (((248 + i) : Nat) : Int))) = true := by kernel_rfl
end Go.Proofs.Ytdjmpilegommlaa
namespace Go.Proofs.Ytdjmpilegommlaa
open Go Go.Ly Go.RowKit
theorem tab11_0 : ((List.range 8).all fun i => tabI (Ly.run env.bare 60000 [] (Ly.start Try.f11 [.int .u8 (((0 + i) : Nat) : Int)] H0)).val? (setsT (((0 + i) : Nat) : Int))) = true := by kernel_rfl
theorem tab11_1 : ((List.range 8).all fun i => tabI (Ly.run env.bare 60000 [] (Ly.start Try.f11 [.int .u8 (((8 + i) : Nat) : Int)] H0)).val? (setsT (((8 + i) : Nat) : Int))) = true := by kernel_rfl
theorem tab11_2 : ((List.range 8).all fun i => tabI (Ly.run env.bare 60000 [] (Ly.start Try.f11 [.int .u8 (((16 + i) : Nat) : Int)] H0)).val? (setsT (((16 + i) : Nat) : Int))) = true := by kernel_rfl
theorem tab11_3 : ((List.range 8).all fun i => tabI (Ly.run env.bare 60000 [] (Ly.start Try.f11 [.int .u8 (((24 + i) : Nat) : Int)] H0)).val? (setsT (((24 + i) : Nat) : Int))) = true := by kernel_rfl
theorem tab11_4 : ((List.range 8).all fun i => tabI (Ly.run env.bare 60000 [] (Ly.start Try.f11 [.int .u8 (((32 + i) : Nat) : Int)] H0)).val? (setsT (((32 + i) : Nat) : Int))) = true := by kernel_rfl
theorem tab11_5 : ((List.range 8).all fun i => tabI (Ly.run env.bare 60000 [] (Ly.start Try.f11 [.int .u8 (((40 + i) : Nat) : Int)] H0)).val? (setsT (((40 + i) : Nat) : Int))) = true := by kernel_rfl
theorem tab11_6 : ((List.range 8).all fun i => tabI (Ly.run env.bare 60000 [] (Ly.start Try.f11 [.int .u8 (((48 + i) : Nat) : Int)] H0)).val? (setsT (((48 + i) : Nat) : Int))) = true := by kernel_rfl
theorem tab11_7 : ((List.range 8).all fun i => tabI (Ly.run env.bare 60000 [] (Ly.start Try.f11 [.int .u8 (((56 + i) : Nat) : Int)] H0)).val? (setsT (((56 + i) : Nat) : Int))) = true := by kernel_rfl
theorem tab11_8 : ((List.range 8).all fun i => tabI (Ly.run env.bare 60000 [] (Ly.start Try.f11 [.int .u8 (((64 + i) : Nat) : Int)] H0)).val? (setsT (((64 + i) : Nat) : Int))) = true := by kernel_rfl
theorem tab11_9 : ((List.range 8).all fun i => tabI (Ly.run env.bare 60000 [] (Ly.start Try.f11 [.int .u8 (((72 + i) : Nat) : Int)] H0)).val? (setsT (((72 + i) : Nat) : Int))) = true := by kernel_rfl
theorem tab11_10 : ((List.range 8).all fun i => tabI (Ly.run env.bare 60000 [] (Ly.start Try.f11 [.int .u8 (((80 + i) : Nat) : Int)] H0)).val? (setsT (((80 + i) : Nat) : Int))) = true := by kernel_rfl
theorem tab11_11 : ((List.range 8).all fun i => tabI (Ly.run env.bare 60000 [] (Ly.start Try.f11 [.int .u8 (((88 + i) : Nat) : Int)] H0)).val? (setsT (((88 + i) : Nat) : Int))) = true := by kernel_rfl
theorem tab11_12 : ((List.range 8).all fun i => tabI (Ly.run env.bare 60000 [] (Ly.start Try.f11 [.int .u8 (((96 + i) : Nat) : Int)] H0)).val? (setsT (((96 + i) : Nat) : Int))) = true := by kernel_rfl
theorem tab11_13 : ((List.range 8).all fun i => tabI (Ly.run env.bare 60000 [] (Ly.start Try.f11 [.int .u8 (((104 + i) : Nat) : Int)] H0)).val? (setsT (((104 + i) : Nat) : Int))) = true := by kernel_rfl
theorem tab11_14 : ((List.range 8).all fun i => tabI (Ly.run env.bare 60000 [] (Ly.start Try.f11 [.int .u8 (((112 + i) : Nat) : Int)] H0)).val? (setsT (((112 + i) : Nat) : Int))) = true := by kernel_rfl
theorem tab11_15 : ((List.range 8).all fun i => tabI (Ly.run env.bare 60000 [] (Ly.start Try.f11 [.int .u8 (((120 + i) : Nat) : Int)] H0)).val? (setsT (((120 + i) : Nat) : Int))) = true := by kernel_rfl
theorem tab11_16 : ((List.range 8).all fun i => tabI (Ly.run env.bare 60000 [] (Ly.start Try.f11 [.int .u8 (((128 + i) : Nat) : Int)] H0)).val? (setsT (((128 + i) : Nat) : Int))) = true := by kernel_rfl
theorem tab11_17 : ((List.range 8).all fun i => tabI (Ly.run env.bare 60000 [] (Ly.start Try.f11 [.int .u8 (((136 + i) : Nat) : Int)] H0)).val? (setsT (((136 + i) : Nat) : Int))) = true := by kernel_rfl
theorem tab11_18 : ((List.range 8).all fun i => tabI (Ly.run env.bare 60000 [] (Ly.start Try.f11 [.int .u8 (((144 + i) : Nat) : Int)] H0)).val? (setsT (((144 + i) : Nat) : Int))) = true := by kernel_rfl
theorem tab11_19 : ((List.range 8).all fun i => tabI (Ly.run env.bare 60000 [] (Ly.start Try.f11 [.int .u8 (((152 + i) : Nat) : Int)] H0)).val? (setsT (((152 + i) : Nat) : Int))) = true := by kernel_rfl
theorem tab11_20 : ((List.range 8).all fun i => tabI (Ly.run env.bare 60000 [] (Ly.start Try.f11 [.int .u8 (((160 + i) : Nat) : Int)] H0)).val? (setsT (((160 + i) : Nat) : Int))) = true := by kernel_rfl
theorem tab11_21 : ((List.range 8).all fun i => tabI (Ly.run env.bare 60000 [] (Ly.start Try.f11 [.int .u8 (((168 + i) : Nat) : Int)] H0)).val? (setsT (((168 + i) : Nat) : Int))) = true := by kernel_rfl
theorem tab11_22 : ((List.range 8).all fun i => tabI (Ly.run env.bare 60000 [] (Ly.start Try.f11 [.int .u8 (((176 + i) : Nat) : Int)] H0)).val? (setsT (((176 + i) : Nat) : Int))) = true := by kernel_rfl
theorem tab11_23 : ((List.range 8).all fun i => tabI (Ly.run env.bare 60000 [] (Ly.start Try.f11 [.int .u8 (((184 + i) : Nat) : Int)] H0)).val? (setsT (((184 + i) : Nat) : Int))) = true := by kernel_rfl
theorem tab11_24 : ((List.range 8).all fun i => tabI (Ly.run env.bare 60000 [] (Ly.start Try.f11 [.int .u8 (((192 + i) : Nat) : Int)] H0)).val? (setsT (((192 + i) : Nat) : Int))) = true := by kernel_rfl
theorem tab11_25 : ((List.range 8).all fun i => tabI (Ly.run env.bare 60000 [] (Ly.start Try.f11 [.int .u8 (((200 + i) : Nat) : Int)] H0)).val? (setsT (((200 + i) : Nat) : Int))) = true := by kernel_rfl
theorem tab11_26 : ((List.range 8).all fun i => tabI (Ly.run env.bare 60000 [] (Ly.start Try.f11 [.int .u8 (((208 + i) : Nat) : Int)] H0)).val? (setsT (((208 + i) : Nat) : Int))) = true := by kernel_rfl
theorem tab11_27 : ((List.range 8).all fun i => tabI (Ly.run env.bare 60000 [] (Ly.start Try.f11 [.int .u8 (((216 + i) : Nat) : Int)] H0)).val? (setsT (((216 + i) : Nat) : Int))) = true := by kernel_rfl
theorem tab11_28 : ((List.range 8).all fun i => tabI (Ly.run env.bare 60000 [] (Ly.start Try.f11 [.int .u8 (((224 + i) : Nat) : Int)] H0)).val? (setsT (((224 + i) : Nat) : Int))) = true := by kernel_rfl
theorem tab11_29 : ((List.range 8).all fun i => tabI (Ly.run env.bare 60000 [] (Ly.start Try.f11 [.int .u8 (((232 + i) : Nat) : Int)] H0)).val? (setsT (((232 + i) : Nat) : Int))) = true := by kernel_rfl
theorem tab11_30 : ((List.range 8).all fun i => tabI (Ly.run env.bare 60000 [] (Ly.start Try.f11 [.int .u8 (((240 + i) : Nat) : Int)] H0)).val? (setsT (((240 + i) : Nat) : Int))) = true := by kernel_rfl
theorem tab11_31 : ((List.range 8).all fun i => tabI (Ly.run env.bare 60000 [] (Ly.start Try.f11 [.int .u8 (((248 + i) : Nat) : Int)] H0)).val? (setsT (((248 + i) : Nat) : Int))) = true := by kernel_rfl
end Go.Proofs.Ytdjmpilegommlaa
namespace Go.Proofs.Ytdjmpilegommlaa
open Go Go.Ly Go.RowKit
theorem tab9_all (n : Nat) (h : n < 256) : tabI (Ly.run env.bare 60000 [] (Ly.start Try.f9 [.int .u8 ((n : Nat) : Int)] H0)).val? (usesT ((n : Nat) : Int)) = true := by
  rcases Nat.lt_or_ge n 8 with g0 | g0
  · exact range_all (p := fun n => tabI (Ly.run env.bare 60000 [] (Ly.start Try.f9 [.int .u8 ((n : Nat) : Int)] H0)).val? (usesT ((n : Nat) : Int))) tab9_0 n (by omega) (by omega)
  rcases Nat.lt_or_ge n 16 with g1 | g1
  · exact range_all (p := fun n => tabI (Ly.run env.bare 60000 [] (Ly.start Try.f9 [.int .u8 ((n : Nat) : Int)] H0)).val? (usesT ((n : Nat) : Int))) tab9_1 n (by omega) (by omega)
  rcases Nat.lt_or_ge n 24 with g2 | g2
  · exact range_all (p := fun n => tabI (Ly.run env.bare 60000 [] (Ly.start Try.f9 [.int .u8 ((n : Nat) : Int)] H0)).val? (usesT ((n : Nat) : Int))) tab9_2 n (by omega) (by omega)
  rcases Nat.lt_or_ge n 32 with g3 | g3
  · exact range_all (p := fun n => tabI (Ly.run env.bare 60000 [] (Ly.start Try.f9 [.int .u8 ((n : Nat) : Int)] H0)).val? (usesT ((n : Nat) : Int))) tab9_3 n (by omega) (by omega)
  rcases Nat.lt_or_ge n 40 with g4 | g4
  · exact range_all (p := fun n => tabI (Ly.run env.bare 60000 [] (Ly.start Try.f9 [.int .u8 ((n : Nat) : Int)] H0)).val? (usesT ((n : Nat) : Int))) tab9_4 n (by omega) (by omega)
  rcases Nat.lt_or_ge n 48 with g5 | g5
  · exact range_all (p := fun n => tabI (Ly.run env.bare 60000 [] (Ly.start Try.f9 [.int .u8 ((n : Nat) : Int)] H0)).val? (usesT ((n : Nat) : Int))) tab9_5 n (by omega) (by omega)
  rcases Nat.lt_or_ge n 56 with g6 | g6
  · exact range_all (p := fun n => tabI (Ly.run env.bare 60000 [] (Ly.start Try.f9 [.int .u8 ((n : Nat) : Int)] H0)).val? (usesT ((n : Nat) : Int))) tab9_6 n (by omega) (by omega)
  rcases Nat.lt_or_ge n 64 with g7 | g7
  · exact range_all (p := fun n => tabI (Ly.run env.bare 60000 [] (Ly.start Try.f9 [.int .u8 ((n : Nat) : Int)] H0)).val? (usesT ((n : Nat) : Int))) tab9_7 n (by omega) (by omega)
  rcases Nat.lt_or_ge n 72 with g8 | g8
  · exact range_all (p := fun n => tabI (Ly.run env.bare 60000 [] (Ly.start Try.f9 [.int .u8 ((n : Nat) : Int)] H0)).val? (usesT ((n : Nat) : Int))) tab9_8 n (by omega) (by omega)
  rcases Nat.lt_or_ge n 80 with g9 | g9
  · exact range_all (p := fun n => tabI (Ly.run env.bare 60000 [] (Ly.start Try.f9 [.int .u8 ((n : Nat) : Int)] H0)).val? (usesT ((n : Nat) : Int))) tab9_9 n (by omega) (by omega)
  rcases Nat.lt_or_ge n 88 with g10 | g10
  · exact range_all (p := fun n => tabI (Ly.run env.bare 60000 [] (Ly.start Try.f9 [.int .u8 ((n : Nat) : Int)] H0)).val? (usesT ((n : Nat) : Int))) tab9_10 n (by omega) (by omega)
  rcases Nat.lt_or_ge n 96 with g11 | g11
  · exact range_all (p := fun n => tabI (Ly.run env.bare 60000 [] (Ly.start Try.f9 [.int .u8 ((n : Nat) : Int)] H0)).val? (usesT ((n : Nat) : Int))) tab9_11 n (by omega) (by omega)
  rcases Nat.lt_or_ge n 104 with g12 | g12
  · exact range_all (p := fun n => tabI (Ly.run env.bare 60000 [] (Ly.start Try.f9 [.int .u8 ((n : Nat) : Int)] H0)).val? (usesT ((n : Nat) : Int))) tab9_12 n (by omega) (by omega)
  rcases Nat.lt_or_ge n 112 with g13 | g13
  · exact range_all (p := fun n => tabI (Ly.run env.bare 60000 [] (Ly.start Try.f9 [.int .u8 ((n : Nat) : Int)] H0)).val? (usesT ((n : Nat) : Int))) tab9_13 n (by omega) (by omega)
  rcases Nat.lt_or_ge n 120 with g14 | g14
  · exact range_all (p := fun n => tabI (Ly.run env.bare 60000 [] (Ly.start Try.f9 [.int .u8 ((n : Nat) : Int)] H0)).val? (usesT ((n : Nat) : Int))) tab9_14 n (by omega) (by omega)
  rcases Nat.lt_or_ge n 128 with g15 | g15
  · exact range_all (p := fun n => tabI (Ly.run env.bare 60000 [] (Ly.start Try.f9 [.int .u8 ((n : Nat) : Int)] H0)).val? (usesT ((n : Nat) : Int))) tab9_15 n (by omega) (by omega)
  rcases Nat.lt_or_ge n 136 with g16 | g16
  · exact range_all (p := fun n => tabI (Ly.run env.bare 60000 [] (Ly.start Try.f9 [.int .u8 ((n : Nat) : Int)] H0)).val? (usesT ((n : Nat) : Int))) tab9_16 n (by omega) (by omega)
  rcases Nat.lt_or_ge n 144 with g17 | g17
  · exact range_all (p := fun n => tabI (Ly.run env.bare 60000 [] (Ly.start Try.f9 [.int .u8 ((n : Nat) : Int)] H0)).val? (usesT ((n : Nat) : Int))) tab9_17 n (by omega) (by omega)
  rcases Nat.lt_or_ge n 152 with g18 | g18
  · exact range_all (p := fun n => tabI (Ly.run env.bare 60000 [] (Ly.start Try.f9 [.int .u8 ((n : Nat) : Int)] H0)).val? (usesT ((n : Nat) : Int))) tab9_18 n (by omega) (by omega)
  rcases Nat.lt_or_ge n 160 with g19 | g19
  · exact range_all (p := fun n => tabI (Ly.run env.bare 60000 [] (Ly.start Try.f9 [.int .u8 ((n : Nat) : Int)] H0)).val? (usesT ((n : Nat) : Int))) tab9_19 n (by omega) (by omega)
  rcases Nat.lt_or_ge n 168 with g20 | g20
  · exact range_all (p := fun n => tabI (Ly.run env.bare 60000 [] (Ly.start Try.f9 [.int .u8 ((n : Nat) : Int)] H0)).val? (usesT ((n : Nat) : Int))) tab9_20 n (by omega) (by omega)
  rcases Nat.lt_or_ge n 176 with g21 | g21
  · exact range_all (p := fun n => tabI (Ly.run env.bare 60000 [] (Ly.start Try.f9 [.int .u8 ((n : Nat) : Int)] H0)).val? (usesT ((n : Nat) : Int))) tab9_21 n (by omega) (by omega)
  rcases Nat.lt_or_ge n 184 with g22 | g22
  · exact range_all (p := fun n => tabI (Ly.run env.bare 60000 [] (Ly.start Try.f9 [.int .u8 ((n : Nat) : Int)] H0)).val? (usesT ((n : Nat) : Int))) tab9_22 n (by omega) (by omega)
  rcases Nat.lt_or_ge n 192 with g23 | g23
  · exact range_all (p := fun n => tabI (Ly.run env.bare 60000 [] (Ly.start Try.f9 [.int .u8 ((n : Nat) : Int)] H0)).val? (usesT ((n : Nat) : Int))) tab9_23 n (by omega) (by omega)
  rcases Nat.lt_or_ge n 200 with g24 | g24
  · exact range_all (p := fun n => tabI (Ly.run env.bare 60000 [] (Ly.start Try.f9 [.int .u8 ((n : Nat) : Int)] H0)).val? (usesT ((n : Nat) : Int))) tab9_24 n (by omega) (by omega)
  rcases Nat.lt_or_ge n 208 with g25 | g25
  · exact range_all (p := fun n => tabI (Ly.run env.bare 60000 [] (Ly.start Try.f9 [.int .u8 ((n : Nat) : Int)] H0)).val? (usesT ((n : Nat) : Int))) tab9_25 n (by omega) (by omega)
  rcases Nat.lt_or_ge n 216 with g26 | g26
  · exact range_all (p := fun n => tabI (Ly.run env.bare 60000 [] (Ly.start Try.f9 [.int .u8 ((n : Nat) : Int)] H0)).val? (usesT ((n : Nat) : Int))) tab9_26 n (by omega) (by omega)
  rcases Nat.lt_or_ge n 224 with g27 | g27
  · exact range_all (p := fun n => tabI (Ly.run env.bare 60000 [] (Ly.start Try.f9 [.int .u8 ((n : Nat) : Int)] H0)).val? (usesT ((n : Nat) : Int))) tab9_27 n (by omega) (by omega)
  rcases Nat.lt_or_ge n 232 with g28 | g28
  · exact range_all (p := fun n => tabI (Ly.run env.bare 60000 [] (Ly.start Try.f9 [.int .u8 ((n : Nat) : Int)] H0)).val? (usesT ((n : Nat) : Int))) tab9_28 n (by omega) (by omega)
  rcases Nat.lt_or_ge n 240 with g29 | g29
  · exact range_all (p := fun n => tabI (Ly.run env.bare 60000 [] (Ly.start Try.f9 [.int .u8 ((n : Nat) : Int)] H0)).val? (usesT ((n : Nat) : Int))) tab9_29 n (by omega) (by omega)
  rcases Nat.lt_or_ge n 248 with g30 | g30
  · exact range_all (p := fun n => tabI (Ly.run env.bare 60000 [] (Ly.start Try.f9 [.int .u8 ((n : Nat) : Int)] H0)).val? (usesT ((n : Nat) : Int))) tab9_30 n (by omega) (by omega)
  rcases Nat.lt_or_ge n 256 with g31 | g31
  · exact range_all (p := fun n => tabI (Ly.run env.bare 60000 [] (Ly.start Try.f9 [.int .u8 ((n : Nat) : Int)] H0)).val? (usesT ((n : Nat) : Int))) tab9_31 n (by omega) (by omega)
  omega
theorem tab9_get : env.bare.fn.get 9 = some Try.f9 := by kernel_rfl
theorem tab9_ans : Answers Try.prog 9 (tabC usesT) := tab_ans tab9_get (by kernel_rfl) (fun n h => tab9_all n h)
theorem tab11_all (n : Nat) (h : n < 256) : tabI (Ly.run env.bare 60000 [] (Ly.start Try.f11 [.int .u8 ((n : Nat) : Int)] H0)).val? (setsT ((n : Nat) : Int)) = true := by
  rcases Nat.lt_or_ge n 8 with g0 | g0
  · exact range_all (p := fun n => tabI (Ly.run env.bare 60000 [] (Ly.start Try.f11 [.int .u8 ((n : Nat) : Int)] H0)).val? (setsT ((n : Nat) : Int))) tab11_0 n (by omega) (by omega)
  rcases Nat.lt_or_ge n 16 with g1 | g1
  · exact range_all (p := fun n => tabI (Ly.run env.bare 60000 [] (Ly.start Try.f11 [.int .u8 ((n : Nat) : Int)] H0)).val? (setsT ((n : Nat) : Int))) tab11_1 n (by omega) (by omega)
  rcases Nat.lt_or_ge n 24 with g2 | g2
  · exact range_all (p := fun n => tabI (Ly.run env.bare 60000 [] (Ly.start Try.f11 [.int .u8 ((n : Nat) : Int)] H0)).val? (setsT ((n : Nat) : Int))) tab11_2 n (by omega) (by omega)
  rcases Nat.lt_or_ge n 32 with g3 | g3
  · exact range_all (p := fun n => tabI (Ly.run env.bare 60000 [] (Ly.start Try.f11 [.int .u8 ((n : Nat) : Int)] H0)).val? (setsT ((n : Nat) : Int))) tab11_3 n (by omega) (by omega)
  rcases Nat.lt_or_ge n 40 with g4 | g4
  · exact range_all (p := fun n => tabI (Ly.run env.bare 60000 [] (Ly.start Try.f11 [.int .u8 ((n : Nat) : Int)] H0)).val? (setsT ((n : Nat) : Int))) tab11_4 n (by omega) (by omega)
  rcases Nat.lt_or_ge n 48 with g5 | g5
  · exact range_all (p := fun n => tabI (Ly.run env.bare 60000 [] (Ly.start Try.f11 [.int .u8 ((n : Nat) : Int)] H0)).val? (setsT ((n : Nat) : Int))) tab11_5 n (by omega) (by omega)
  rcases Nat.lt_or_ge n 56 with g6 | g6
  · exact range_all (p := fun n => tabI (Ly.run env.bare 60000 [] (Ly.start Try.f11 [.int .u8 ((n : Nat) : Int)] H0)).val? (setsT ((n : Nat) : Int))) tab11_6 n (by omega) (by omega)
  rcases Nat.lt_or_ge n 64 with g7 | g7
  · exact range_all (p := fun n => tabI (Ly.run env.bare 60000 [] (Ly.start Try.f11 [.int .u8 ((n : Nat) : Int)] H0)).val? (setsT ((n : Nat) : Int))) tab11_7 n (by omega) (by omega)
  rcases Nat.lt_or_ge n 72 with g8 | g8
  · exact range_all (p := fun n => tabI (Ly.run env.bare 60000 [] (Ly.start Try.f11 [.int .u8 ((n : Nat) : Int)] H0)).val? (setsT ((n : Nat) : Int))) tab11_8 n (by omega) (by omega)
  rcases Nat.lt_or_ge n 80 with g9 | g9
  · exact range_all (p := fun n => tabI (Ly.run env.bare 60000 [] (Ly.start Try.f11 [.int .u8 ((n : Nat) : Int)] H0)).val? (setsT ((n : Nat) : Int))) tab11_9 n (by omega) (by omega)
  rcases Nat.lt_or_ge n 88 with g10 | g10
  · exact range_all (p := fun n => tabI (Ly.run env.bare 60000 [] (Ly.start Try.f11 [.int .u8 ((n : Nat) : Int)] H0)).val? (setsT ((n : Nat) : Int))) tab11_10 n (by omega) (by omega)
  rcases Nat.lt_or_ge n 96 with g11 | g11
  · exact range_all (p := fun n => tabI (Ly.run env.bare 60000 [] (Ly.start Try.f11 [.int .u8 ((n : Nat) : Int)] H0)).val? (setsT ((n : Nat) : Int))) tab11_11 n (by omega) (by omega)
  rcases Nat.lt_or_ge n 104 with g12 | g12
  · exact range_all (p := fun n => tabI (Ly.run env.bare 60000 [] (Ly.start Try.f11 [.int .u8 ((n : Nat) : Int)] H0)).val? (setsT ((n : Nat) : Int))) tab11_12 n (by omega) (by omega)
  rcases Nat.lt_or_ge n 112 with g13 | g13
  · exact range_all (p := fun n => tabI (Ly.run env.bare 60000 [] (Ly.start Try.f11 [.int .u8 ((n : Nat) : Int)] H0)).val? (setsT ((n : Nat) : Int))) tab11_13 n (by omega) (by omega)
  rcases Nat.lt_or_ge n 120 with g14 | g14
  · exact range_all (p := fun n => tabI (Ly.run env.bare 60000 [] (Ly.start Try.f11 [.int .u8 ((n : Nat) : Int)] H0)).val? (setsT ((n : Nat) : Int))) tab11_14 n (by omega) (by omega)
  rcases Nat.lt_or_ge n 128 with g15 | g15
  · exact range_all (p := fun n => tabI (Ly.run env.bare 60000 [] (Ly.start Try.f11 [.int .u8 ((n : Nat) : Int)] H0)).val? (setsT ((n : Nat) : Int))) tab11_15 n (by omega) (by omega)
  rcases Nat.lt_or_ge n 136 with g16 | g16
  · exact range_all (p := fun n => tabI (Ly.run env.bare 60000 [] (Ly.start Try.f11 [.int .u8 ((n : Nat) : Int)] H0)).val? (setsT ((n : Nat) : Int))) tab11_16 n (by omega) (by omega)
  rcases Nat.lt_or_ge n 144 with g17 | g17
  · exact range_all (p := fun n => tabI (Ly.run env.bare 60000 [] (Ly.start Try.f11 [.int .u8 ((n : Nat) : Int)] H0)).val? (setsT ((n : Nat) : Int))) tab11_17 n (by omega) (by omega)
  rcases Nat.lt_or_ge n 152 with g18 | g18
  · exact range_all (p := fun n => tabI (Ly.run env.bare 60000 [] (Ly.start Try.f11 [.int .u8 ((n : Nat) : Int)] H0)).val? (setsT ((n : Nat) : Int))) tab11_18 n (by omega) (by omega)
  rcases Nat.lt_or_ge n 160 with g19 | g19
  · exact range_all (p := fun n => tabI (Ly.run env.bare 60000 [] (Ly.start Try.f11 [.int .u8 ((n : Nat) : Int)] H0)).val? (setsT ((n : Nat) : Int))) tab11_19 n (by omega) (by omega)
  rcases Nat.lt_or_ge n 168 with g20 | g20
  · exact range_all (p := fun n => tabI (Ly.run env.bare 60000 [] (Ly.start Try.f11 [.int .u8 ((n : Nat) : Int)] H0)).val? (setsT ((n : Nat) : Int))) tab11_20 n (by omega) (by omega)
  rcases Nat.lt_or_ge n 176 with g21 | g21
  · exact range_all (p := fun n => tabI (Ly.run env.bare 60000 [] (Ly.start Try.f11 [.int .u8 ((n : Nat) : Int)] H0)).val? (setsT ((n : Nat) : Int))) tab11_21 n (by omega) (by omega)
  rcases Nat.lt_or_ge n 184 with g22 | g22
  · exact range_all (p := fun n => tabI (Ly.run env.bare 60000 [] (Ly.start Try.f11 [.int .u8 ((n : Nat) : Int)] H0)).val? (setsT ((n : Nat) : Int))) tab11_22 n (by omega) (by omega)
  rcases Nat.lt_or_ge n 192 with g23 | g23
  · exact range_all (p := fun n => tabI (Ly.run env.bare 60000 [] (Ly.start Try.f11 [.int .u8 ((n : Nat) : Int)] H0)).val? (setsT ((n : Nat) : Int))) tab11_23 n (by omega) (by omega)
  rcases Nat.lt_or_ge n 200 with g24 | g24
  · exact range_all (p := fun n => tabI (Ly.run env.bare 60000 [] (Ly.start Try.f11 [.int .u8 ((n : Nat) : Int)] H0)).val? (setsT ((n : Nat) : Int))) tab11_24 n (by omega) (by omega)
  rcases Nat.lt_or_ge n 208 with g25 | g25
  · exact range_all (p := fun n => tabI (Ly.run env.bare 60000 [] (Ly.start Try.f11 [.int .u8 ((n : Nat) : Int)] H0)).val? (setsT ((n : Nat) : Int))) tab11_25 n (by omega) (by omega)
  rcases Nat.lt_or_ge n 216 with g26 | g26
  · exact range_all (p := fun n => tabI (Ly.run env.bare 60000 [] (Ly.start Try.f11 [.int .u8 ((n : Nat) : Int)] H0)).val? (setsT ((n : Nat) : Int))) tab11_26 n (by omega) (by omega)
  rcases Nat.lt_or_ge n 224 with g27 | g27
  · exact range_all (p := fun n => tabI (Ly.run env.bare 60000 [] (Ly.start Try.f11 [.int .u8 ((n : Nat) : Int)] H0)).val? (setsT ((n : Nat) : Int))) tab11_27 n (by omega) (by omega)
  rcases Nat.lt_or_ge n 232 with g28 | g28
  · exact range_all (p := fun n => tabI (Ly.run env.bare 60000 [] (Ly.start Try.f11 [.int .u8 ((n : Nat) : Int)] H0)).val? (setsT ((n : Nat) : Int))) tab11_28 n (by omega) (by omega)
  rcases Nat.lt_or_ge n 240 with g29 | g29
  · exact range_all (p := fun n => tabI (Ly.run env.bare 60000 [] (Ly.start Try.f11 [.int .u8 ((n : Nat) : Int)] H0)).val? (setsT ((n : Nat) : Int))) tab11_29 n (by omega) (by omega)
  rcases Nat.lt_or_ge n 248 with g30 | g30
  · exact range_all (p := fun n => tabI (Ly.run env.bare 60000 [] (Ly.start Try.f11 [.int .u8 ((n : Nat) : Int)] H0)).val? (setsT ((n : Nat) : Int))) tab11_30 n (by omega) (by omega)
  rcases Nat.lt_or_ge n 256 with g31 | g31
  · exact range_all (p := fun n => tabI (Ly.run env.bare 60000 [] (Ly.start Try.f11 [.int .u8 ((n : Nat) : Int)] H0)).val? (setsT ((n : Nat) : Int))) tab11_31 n (by omega) (by omega)
  omega
theorem tab11_get : env.bare.fn.get 11 = some Try.f11 := by kernel_rfl
theorem tab11_ans : Answers Try.prog 11 (tabC setsT) := tab_ans tab11_get (by kernel_rfl) (fun n h => tab11_all n h)
end Go.Proofs.Ytdjmpilegommlaa
namespace Go.Proofs.Ytdjmpilegommlaa
open Go Go.Ly Go.RowKit
def ctx1 : Ctx := env.bare.withC 20 (conTree env.bare 3000 20) |>.withC 26 (conTree env.bare 300 26) |>.withC 37 (conTree env.bare 600 37) |>.withC 33 (conTree env.bare 300 33)
theorem ctx1_ok : ctx1.Ok Try.prog := ((((Env.bare_ok envOk).byCon (Env.bare_ok envOk) 3000 20).byCon (Env.bare_ok envOk) 300 26).byCon (Env.bare_ok envOk) 600 37).byCon (Env.bare_ok envOk) 300 33
def ctx2 : Ctx := ctx1.withC 9 (conTree ctx1 3000 9) |>.withC 11 (conTree ctx1 3000 11) |>.withC 38 (conTree ctx1 600 38) |>.withC 39 (conTree ctx1 600 39) |>.withC 57 (conTree ctx1 6000 57) |>.withH 41 (hconTree ctx1 600 41)
theorem ctx2_ok : ctx2.Ok Try.prog := (((((ctx1_ok.byCon ctx1_ok 3000 9).byCon ctx1_ok 3000 11).byCon ctx1_ok 600 38).byCon ctx1_ok 600 39).byCon ctx1_ok 6000 57).byRun ctx1_ok 600 41
end Go.Proofs.Ytdjmpilegommlaa
namespace Go.Proofs.Ytdjmpilegommlaa
open Go Go.Ly Go.RowKit
theorem getAl13 : ctx2.fn.get 13 = some Try.f13 := by kernel_rfl
set_option maxRecDepth 100000 in
theorem run13 : (Ly.run ctx2 100000 [] (Ly.start Try.f13 [] H0)).out? = some ([], .bool true) := by kernel_rfl
def aliveC (l : List Value) : Option (Bool × Value) := match l with
  | [] => some (true, .bool true)
  | _ => none
theorem alive_ans : Answers Try.prog 13 aliveC := by
  intro args g v h hg
  unfold aliveC at h
  split at h
  · simp only [Option.some.injEq, Prod.mk.injEq] at h
    obtain ⟨rfl, rfl⟩ := h
    exact ⟨by simp [plainL], by simp [plain], fun w => calls_trust ctx2_ok 100000 [] getAl13 (by kernel_rfl) (by simp [plainL]) (by simp [plain]) run13 trivial w⟩
  · cases h
end Go.Proofs.Ytdjmpilegommlaa
end
