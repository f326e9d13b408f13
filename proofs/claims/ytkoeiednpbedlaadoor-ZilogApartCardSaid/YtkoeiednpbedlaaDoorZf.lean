/- strings.Fields, as a contract: a new row of the fields of a text of ASCII bytes. -/
import Derived.Test.YtkoeiednpbedlaaDoorSf
import Derived.Test.YtkoeiednpbedlaaDoorCy
import Derived.Test.YtkoeiednpbedlaaDoorLyWc
import Derived.KernelRfl
namespace Go.Proofs.YtkoeiednpbedlaaDoor
open Go Go.Ly Go.RowKit
set_option linter.unusedVariables false
set_option linter.unusedSimpArgs false
noncomputable def fldL (s : ByteArray) : List Value := (Lib.fields s.data.toList).map fun l => Value.string ⟨l.toArray⟩
/-- the texts of this program: their fields, reckoned -/
noncomputable def fieldsE (known : List (ByteArray × List Value)) (H : Heap) (args : List Value) : ER :=
  match args with
  | [.string s] =>
    match known.find? (fun x => strEq x.1 s) with
    | some x => bif Nat.blt (H.next + 1) 2147483000 then .mem (.slice (some ⟨H.next, 0, none⟩) x.2.length x.2.length) (H.new (.cells x.2 9)) else .no
    | none => .no
  | _ => .no
theorem fixTab {w : World} (hw : FixW w) (c : Nat) (hc : c < 256) : w.cell? ⟨0, c, none⟩ = some (.int .u8 (if Lib.isSp (UInt8.ofNat c) then 1 else 0)) := by
  obtain ⟨o, h1, cs, t, fr, rfl, h2⟩ := hw.held 0 _ rfl
  have h3 := h2 c hc
  have h4 : w.cell? ⟨0, c, none⟩ = cs[c]? := by unfold World.cell?; simp only; rw [h1]; rfl
  rw [h4, h3]
  have key : ∀ n : Fin 256, (if n.val = 9 ∨ n.val = 10 ∨ n.val = 11 ∨ n.val = 12 ∨ n.val = 13 ∨ n.val = 32 then (1 : Int) else 0) = (if Lib.isSp (UInt8.ofNat n.val) then 1 else 0) := by decide +kernel
  rw [key ⟨c, hc⟩]
theorem strEq_of {a b : ByteArray} (h : strEq a b = true) : a = b := by
  rw [strEq_eq, beq_iff_eq] at h
  apply ByteArray.ext
  apply Array.ext'
  rw [← ByteArray.toList_eq, ← ByteArray.toList_eq]; exact h
structure FldOk (x : ByteArray × List Value) : Prop where
  size : x.1.size < 4294967281
  ascii : ∀ (j : Nat) b, x.1.data.toList[j]? = some b → b.toNat < 128
  val : fldL x.1 = x.2
  pl : plainL x.2 = true
  len : x.2.length < 1000
theorem fields_good {known : List (ByteArray × List Value)} (hk : ∀ x ∈ known, FldOk x) (H : Heap) (args : List Value) : HGood Tryd.prog 32 args H (fieldsE known H args) := by
  unfold fieldsE
  split
  · rename_i s
    cases hf : known.find? (fun x => strEq x.1 s) with
    | none => exact trivial
    | some x =>
      simp only
      cases hb : Nat.blt (H.next + 1) 2147483000 with
      | false => exact trivial
      | true =>
        simp only [cond_true]
        have hb' : H.next + 1 < big := by unfold big; simpa [Nat.blt_eq] using hb
        obtain ⟨hs, ha, hv, hp, hl⟩ := hk x (List.mem_of_find?_eq_some hf)
        have hx : x.1 = s := strEq_of (by simpa using List.find?_some hf)
        intro ρ args' w hva hr
        simp only [VRL, VR] at hva
        obtain ⟨_, _, rfl, rfl, rfl⟩ := hva
        haveI := hr.fix.w
        rw [← hx]
        have hlen : (Lib.fields x.1.data.toList).length = x.2.length := by rw [← hv]; simp [fldL]
        refine (Go.Proofs.Any.strings_Fields_core Tryd.lays157 (by kernel_rfl) x.1 w hs ha (fun c hc => fixTab hr.fix.w c hc)).mono ?_
        rintro e w' ⟨rfl, rfl⟩
        have e0 : ((Lib.fields x.1.data.toList).map fun l => Value.string ⟨l.toArray⟩).toArray = (⟨x.2⟩ : Array Value) := by
          rw [← hv]; rfl
        obtain ⟨g1, g2, g3⟩ := hr.new (o := .cells x.2 9) (o' := .cells ⟨x.2⟩ 9 (0, 0)) hb' 0 0 rfl ⟨by simp [Ren.ext], x.2, plainL_VR x.2 hp, rfl⟩
        refine ⟨_, _, _, _, rfl, ⟨rfl, rfl⟩, hr.ext_le _ _ _, g2, ?_, by
          show Rep _ _ (w.alloc (.cells ((Lib.fields x.1.data.toList).map fun l => Value.string ⟨l.toArray⟩).toArray 9))
          rw [e0]; exact g1, by
          show Keep _ _ (w.alloc (.cells ((Lib.fields x.1.data.toList).map fun l => Value.string ⟨l.toArray⟩).toArray 9))
          rw [e0]; exact g3⟩
        simp only [VR]
        rw [hlen]
        refine ⟨_, _, rfl, Nat.le_refl _, fun _ => rfl, fun _ => ⟨w.heap.size, by simp [Ren.ext], by simp [Ren.at, Ren.ext], fun hc => ?_⟩⟩
        exfalso
        unfold capU at hc
        omega
  · exact trivial
end Go.Proofs.YtkoeiednpbedlaaDoor
