/- slices.Equal of rows of texts, as a contract; the context of ZilogBoth. -/
import Derived.Test.YtkoeiednpbedlaaDoorSg
import Derived.Test.YtkoeiednpbedlaaDoorZt
import Derived.Test.YtkoeiednpbedlaaDoorZa
import Derived.KernelRfl
namespace Go.Proofs.YtkoeiednpbedlaaDoor
open Go Go.Ly Go.RowKit
set_option linter.unusedVariables false
set_option linter.unusedSimpArgs false
noncomputable def eqSL : List ByteArray → List ByteArray → Bool
  | [], [] => true
  | a :: x, b :: y => bif strEq a b then eqSL x y else false
  | _, _ => false
theorem eqSL_eq : ∀ (x y : List ByteArray), eqSL x y = decide (x = y)
  | [], [] => rfl
  | [], _ :: _ => rfl
  | _ :: _, [] => rfl
  | a :: x, b :: y => by
    rw [eqSL, eqSL_eq x y]
    cases h : strEq a b with
    | true => rw [strEq_of h]; simp
    | false =>
      have hne : a ≠ b := fun e => by subst e; rw [strEq_eq] at h; simp at h
      simp [hne]
noncomputable def eqsC (H : Heap) (args : List Value) : ER :=
  match args with
  | [.slice none 0 0, .slice b m d] => .tst (Nat.ble m 1000) (.val (.bool (Nat.beq m 0))) .no
  | [.slice (some a) n c, .slice (some b) m d] =>
    match srcR H 1 (.slice (some a) n c), srcR H 1 (.slice (some b) m d) with
    | some (g1, .lst n' l), some (g2, .lst m' k) =>
      match strsOf l, strsOf k with
      | some xs, some ys => .tst (g1 && (g2 && (Nat.ble 1 n && (Nat.ble 1 m && (Nat.ble n 1000 && Nat.ble m 1000))))) (.val (.bool (eqSL xs ys))) .no
      | _, _ => .no
    | _, _ => .no
  | _ => .no
theorem drewN_below (w : World) (q : Nat) : Below w.heap.size w (w.drewN q) := ⟨rfl, rfl, rfl, Nat.le_refl _, fun _ _ => rfl⟩
/-- a row of texts, and where it stands -/
theorem strs_at {ρ : Ly.Ren} {w : World} {H : Heap} (hr : Rep ρ H w) {a : Addr} {n c n' : Nat} {x' : Value} {gd : Bool} {l : List Value} {xs : List ByteArray} (hx : VR ρ (.slice (some a) n c) x') (hs : srcR H 1 (.slice (some a) n c) = some (gd, .lst n' l)) (hg : gd = true) (hn : 1 ≤ n) (hxs : strsOf l = some xs) :
    ∃ b o c', x' = .slice (some ⟨b, o, none⟩) n c' ∧ xs.length = n ∧ ∀ j, j < xs.length → w.cell? ⟨b, o + j, none⟩ = some (.string (xs.getD j ByteArray.empty)) := by
  obtain ⟨b, c', hb, hx', hnc, _⟩ := VR_slice_addr hx (by omega)
  subst hx'
  obtain ⟨l', a', c2, hok, e1, _, _, hcell⟩ := srcR_both (P := Tryd.prog) hr hx hs hg
  simp only [RwOk] at hok
  obtain ⟨hvl, hll⟩ := hok
  have hn' : n' = n := by
    simp only [Value.slice.injEq, Rw.n] at e1
    exact e1.2.1.symm
  obtain ⟨h1, h2⟩ := strsOf_get hxs
  have hlen : l'.length = l.length := VRL.length hvl
  refine ⟨b, ρ.at a, c', rfl, by rw [h1, ← hlen, hll, hn']; omega, fun j hj => ?_⟩
  obtain ⟨u, hu1, hu2⟩ := VRL.get hvl j _ (h2 j xs[j] (List.getElem?_eq_getElem hj))
  simp only [VR] at hu2
  subst hu2
  rw [List.getD_eq_getElem?_getD, List.getElem?_eq_getElem hj]
  exact hcell a n c rfl j _ hu1 b hb
theorem eqs_con (args : List Value) (ρ : Ly.Ren) (args' : List Value) (w : World) (H : Heap) (ha : VRL ρ args args') (hr : Rep ρ H w) : ConGood Tryd.prog ρ 30 args' w (eqsC H args) := by
  unfold eqsC
  split
  · rename_i b m d
    refine ⟨fun hg => ?_, fun _ => trivial⟩
    simp only [Nat.ble_eq] at hg
    simp only [VRL] at ha
    obtain ⟨x', _, hx, ⟨y', _, hy, rfl, rfl⟩, rfl⟩ := ha
    simp only [VR] at hx
    subst hx
    obtain ⟨b', d', rfl⟩ := VR_slice_shape hy
    refine ⟨_, VR_bool, ?_⟩
    refine (Go.Proofs.Tryd.slices_Equal_string_empty none b' 0 m d' w (by omega)).mono ?_
    rintro e w' ⟨rfl, rfl⟩
    refine ⟨?_, Below.refl _ _⟩
    congr 2
    cases m with
    | zero => rfl
    | succ m => rfl
  · rename_i a n c b m d
    split
    · rename_i g1 n' l g2 m' k h1 h2
      split
      · rename_i xs ys hxs hys
        refine ⟨fun hg => ?_, fun _ => trivial⟩
        simp only [Bool.and_eq_true, Nat.ble_eq] at hg
        obtain ⟨e1, e2, e3, e4, e5, e6⟩ := hg
        simp only [VRL] at ha
        obtain ⟨x', _, hx, ⟨y', _, hy, rfl, rfl⟩, rfl⟩ := ha
        obtain ⟨b1, o1, c1, rfl, q1, q2⟩ := strs_at hr hx h1 e1 e3 hxs
        obtain ⟨b2, o2, c2, rfl, q3, q4⟩ := strs_at hr hy h2 e2 e4 hys
        refine ⟨_, VR_bool, ?_⟩
        refine (Go.Proofs.Tryd.slices_Equal_string b1 o1 n c1 b2 o2 m c2 xs ys w (by omega) (by omega) (by omega) (by omega) q2 q4).mono ?_
        rintro e w' ⟨rfl, q, rfl⟩
        refine ⟨?_, drewN_below w q⟩
        rw [eqSL_eq, List.take_of_length_le (by omega), List.take_of_length_le (by omega)]
      · exact trivial
    · exact trivial
  · exact trivial
noncomputable def zctxH : Ctx := (zctxG.withC 30 eqsC).with 13 aliveC
theorem zctxH_ok : zctxH.Ok Tryd.prog := (zctxG_ok.withC eqs_con).with alive_ans
end Go.Proofs.YtkoeiednpbedlaaDoor
