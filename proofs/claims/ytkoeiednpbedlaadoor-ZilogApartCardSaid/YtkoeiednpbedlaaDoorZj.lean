/- strings.Join of texts that are known, and strings.TrimRight at one byte, as contracts. -/
import Derived.Test.YtkoeiednpbedlaaDoorZc
import Derived.KernelRfl
namespace Go.Proofs.YtkoeiednpbedlaaDoor
open Go Go.Ly Go.RowKit
set_option linter.unusedVariables false
set_option linter.unusedSimpArgs false
noncomputable def strsOf : List Value → Option (List ByteArray)
  | [] => some []
  | .string s :: r => match strsOf r with | some l => some (s :: l) | none => none
  | _ => none
theorem strsOf_get : ∀ {l : List Value} {xs : List ByteArray}, strsOf l = some xs → xs.length = l.length ∧ ∀ (j : Nat) x, xs[j]? = some x → l[j]? = some (.string x)
  | [], xs, h => by simp only [strsOf, Option.some.injEq] at h; subst h; exact ⟨rfl, fun j x hx => by simp at hx⟩
  | v :: r, xs, h => by
    cases v with
    | string s =>
      simp only [strsOf] at h
      cases hr : strsOf r with
      | none => rw [hr] at h; cases h
      | some l =>
        rw [hr] at h; simp only [Option.some.injEq] at h; subst h
        obtain ⟨h1, h2⟩ := strsOf_get hr
        refine ⟨by simp [h1], fun j x hx => ?_⟩
        cases j with
        | zero => simp at hx; subst hx; rfl
        | succ j => simp at hx ⊢; exact h2 j x hx
    | _ => simp [strsOf] at h
/-- texts with one between each two, in the words of lists -/
noncomputable def joinL (sep : List UInt8) : List ByteArray → List UInt8
  | [] => []
  | x :: r => x.data.toList ++ (r.map fun y => sep ++ y.data.toList).flatten
theorem joinL_eq (sep : List UInt8) (xs : List ByteArray) : joinL sep xs = Lib.join (xs.map (·.data.toList)) sep := by
  cases xs with
  | nil => rfl
  | cons x r => rw [List.map_cons, Lib.join_cons, joinL, Lib.joinTail, List.map_map]; rfl
noncomputable def joinC (H : Heap) (args : List Value) : ER :=
  match args with
  | [.slice (some a) n c, .string sep] =>
    match srcR H 1 (.slice (some a) n c) with
    | some (gd, .lst m l) =>
      match strsOf l with
      | some xs => .tst (gd && (Nat.ble 1 n && (Nat.ble n 1000 && Nat.ble (joinL sep.data.toList xs).length 1000000))) (.val (.string ⟨⟨joinL sep.data.toList xs⟩⟩)) .no
      | none => .no
    | _ => .no
  | _ => .no
theorem join_con (args : List Value) (ρ : Ly.Ren) (args' : List Value) (w : World) (H : Heap) (ha : VRL ρ args args') (hr : Rep ρ H w) : ConGood Tryd.prog ρ 44 args' w (joinC H args) := by
  unfold joinC
  split
  · rename_i a n c sep
    split
    · rename_i gd m l hsrc
      split
      · rename_i xs hxs
        refine ⟨fun hg => ?_, fun _ => trivial⟩
        simp only [Bool.and_eq_true, Nat.ble_eq] at hg
        obtain ⟨g1, g2, g3, g4⟩ := hg
        simp only [VRL] at ha
        obtain ⟨x', _, hx, ⟨y', _, hy, rfl, rfl⟩, rfl⟩ := ha
        simp only [VR] at hy
        subst hy
        refine ⟨_, VR_string, ?_⟩
        obtain ⟨b, c', hb, hx', hnc, _⟩ := VR_slice_addr hx (by omega)
        subst hx'
        obtain ⟨l', a', c2, hok, e1, _, _, hcell⟩ := srcR_both (P := Tryd.prog) hr hx hsrc g1
        simp only [RwOk] at hok
        obtain ⟨hvl, hll⟩ := hok
        have hn : m = n := by
          simp only [Value.slice.injEq, Rw.n] at e1
          exact e1.2.1.symm
        obtain ⟨h1, h2⟩ := strsOf_get hxs
        have hlen : l'.length = l.length := VRL.length hvl
        have hxl : xs.length = n := by rw [h1, ← hlen, hll, hn]; omega
        have key := Go.Proofs.Tryd.strings_Join b (ρ.at a) c' xs sep w (fun j x hj => by
          obtain ⟨u, hu1, hu2⟩ := VRL.get hvl j _ (h2 j x hj)
          simp only [VR] at hu2
          subst hu2
          exact hcell a n c rfl j _ hu1 b hb) (hr.dom _ _ hb).2 (by omega) (by omega) (by rw [← joinL_eq]; omega)
        rw [hxl] at key
        refine key.mono ?_
        rintro e w' ⟨rfl, hw⟩
        exact ⟨by rw [← joinL_eq], hw⟩
      · exact trivial
    · exact trivial
  · exact trivial
/-! ### TrimRight at one byte -/
noncomputable def dropEnd (c : UInt8) (s : ByteArray) : ByteArray := ⟨⟨Lib.trimRightB s.data.toList c⟩⟩
noncomputable def trimC (l : List Value) : Option (Bool × Value) := match l with
  | [.string s, .string c] => match c.data.toList with
    | [b] => some (Nat.blt b.toNat 128 && Nat.ble s.size 9223372036854775807, .string (dropEnd b s))
    | _ => none
  | _ => none
theorem trim_ans : Answers Tryd.prog 25 trimC := by
  intro args g v h hg
  unfold trimC at h
  split at h
  · rename_i s c
    split at h
    · rename_i b hb
      simp only [Option.some.injEq, Prod.mk.injEq] at h
      obtain ⟨rfl, rfl⟩ := h
      simp only [Bool.and_eq_true, Nat.ble_eq, Nat.blt_eq] at hg
      have hc : c = ⟨#[b]⟩ := by
        apply ByteArray.ext
        apply Array.ext'
        simpa using hb
      subst hc
      refine ⟨by simp [plainL, plain], by simp [plain], fun w => ?_⟩
      intro _
      refine (Go.Proofs.Tryd.strings_TrimRight_one s b hg.1 w hg.2).mono ?_
      rintro e w' ⟨rfl, rfl⟩
      exact ⟨rfl, Below.refl _ _⟩
    · cases h
  · cases h
noncomputable def zctx1 : Ctx := (zctx.withC 44 joinC).with 25 trimC
theorem zctx1_ok : zctx1.Ok Tryd.prog := (zctx_ok.withC join_con).with trim_ans
end Go.Proofs.YtkoeiednpbedlaaDoor
