/- The texts whose fields are asked for. By program (genzc.py). -/
import Derived.Test.YtkoeiednpbedlaaDoorZf
import Derived.KernelRfl
namespace Go.Proofs.YtkoeiednpbedlaaDoor
open Go Go.Ly Go.RowKit
set_option linter.unusedVariables false
noncomputable def kn0 : ByteArray × List Value := (⟨#[78, 90, 32, 90, 32, 78, 67, 32, 67, 32, 80, 79, 32, 80, 69, 32, 80, 32, 77]⟩, [.string ⟨#[78, 90]⟩, .string ⟨#[90]⟩, .string ⟨#[78, 67]⟩, .string ⟨#[67]⟩, .string ⟨#[80, 79]⟩, .string ⟨#[80, 69]⟩, .string ⟨#[80]⟩, .string ⟨#[77]⟩])
theorem kn0_ok : FldOk kn0 := {
  size := by decide +kernel
  ascii := fun j b h => by
    have h1 : kn0.1.data.toList.all (fun b => decide (b.toNat < 128)) = true := by decide +kernel
    exact of_decide_eq_true (List.all_eq_true.1 h1 b (List.mem_of_getElem? h))
  val := by kernel_rfl
  pl := by kernel_rfl
  len := by decide +kernel }
noncomputable def kn1 : ByteArray × List Value := (⟨#[79, 82, 32, 88, 79, 82, 32, 65, 78, 68, 32, 78, 79, 84, 32, 77, 79, 68, 32, 83, 72, 76, 32, 83, 72, 82, 32, 65, 32, 66, 32, 67, 32, 68, 32, 69, 32, 72, 32, 76, 32, 77, 32, 83, 80, 32, 80, 83, 87]⟩, [.string ⟨#[79, 82]⟩, .string ⟨#[88, 79, 82]⟩, .string ⟨#[65, 78, 68]⟩, .string ⟨#[78, 79, 84]⟩, .string ⟨#[77, 79, 68]⟩, .string ⟨#[83, 72, 76]⟩, .string ⟨#[83, 72, 82]⟩, .string ⟨#[65]⟩, .string ⟨#[66]⟩, .string ⟨#[67]⟩, .string ⟨#[68]⟩, .string ⟨#[69]⟩, .string ⟨#[72]⟩, .string ⟨#[76]⟩, .string ⟨#[77]⟩, .string ⟨#[83, 80]⟩, .string ⟨#[80, 83, 87]⟩])
theorem kn1_ok : FldOk kn1 := {
  size := by decide +kernel
  ascii := fun j b h => by
    have h1 : kn1.1.data.toList.all (fun b => decide (b.toNat < 128)) = true := by decide +kernel
    exact of_decide_eq_true (List.all_eq_true.1 h1 b (List.mem_of_getElem? h))
  val := by kernel_rfl
  pl := by kernel_rfl
  len := by decide +kernel }
noncomputable def kn2 : ByteArray × List Value := (⟨#[79, 82, 32, 88, 79, 82, 32, 65, 78, 68, 32, 78, 79, 84, 32, 77, 79, 68, 32, 83, 72, 76, 32, 83, 72, 82, 32, 65, 32, 66, 32, 67, 32, 68, 32, 69, 32, 72, 32, 76, 32, 65, 70, 32, 66, 67, 32, 68, 69, 32, 72, 76, 32, 83, 80, 32, 78, 90, 32, 90, 32, 78, 67, 32, 80, 79, 32, 80, 69, 32, 80, 32, 77]⟩, [.string ⟨#[79, 82]⟩, .string ⟨#[88, 79, 82]⟩, .string ⟨#[65, 78, 68]⟩, .string ⟨#[78, 79, 84]⟩, .string ⟨#[77, 79, 68]⟩, .string ⟨#[83, 72, 76]⟩, .string ⟨#[83, 72, 82]⟩, .string ⟨#[65]⟩, .string ⟨#[66]⟩, .string ⟨#[67]⟩, .string ⟨#[68]⟩, .string ⟨#[69]⟩, .string ⟨#[72]⟩, .string ⟨#[76]⟩, .string ⟨#[65, 70]⟩, .string ⟨#[66, 67]⟩, .string ⟨#[68, 69]⟩, .string ⟨#[72, 76]⟩, .string ⟨#[83, 80]⟩, .string ⟨#[78, 90]⟩, .string ⟨#[90]⟩, .string ⟨#[78, 67]⟩, .string ⟨#[80, 79]⟩, .string ⟨#[80, 69]⟩, .string ⟨#[80]⟩, .string ⟨#[77]⟩])
theorem kn2_ok : FldOk kn2 := {
  size := by decide +kernel
  ascii := fun j b h => by
    have h1 : kn2.1.data.toList.all (fun b => decide (b.toNat < 128)) = true := by decide +kernel
    exact of_decide_eq_true (List.all_eq_true.1 h1 b (List.mem_of_getElem? h))
  val := by kernel_rfl
  pl := by kernel_rfl
  len := by decide +kernel }
noncomputable def kn3 : ByteArray × List Value := (⟨#[79, 82, 32, 88, 79, 82, 32, 65, 78, 68, 32, 78, 79, 84, 32, 77, 79, 68, 32, 83, 72, 76, 32, 83, 72, 82, 32, 65, 76, 32, 67, 76, 32, 68, 76, 32, 66, 76, 32, 65, 72, 32, 67, 72, 32, 68, 72, 32, 66, 72, 32, 65, 88, 32, 67, 88, 32, 68, 88, 32, 66, 88, 32, 83, 80, 32, 66, 80, 32, 83, 73, 32, 68, 73]⟩, [.string ⟨#[79, 82]⟩, .string ⟨#[88, 79, 82]⟩, .string ⟨#[65, 78, 68]⟩, .string ⟨#[78, 79, 84]⟩, .string ⟨#[77, 79, 68]⟩, .string ⟨#[83, 72, 76]⟩, .string ⟨#[83, 72, 82]⟩, .string ⟨#[65, 76]⟩, .string ⟨#[67, 76]⟩, .string ⟨#[68, 76]⟩, .string ⟨#[66, 76]⟩, .string ⟨#[65, 72]⟩, .string ⟨#[67, 72]⟩, .string ⟨#[68, 72]⟩, .string ⟨#[66, 72]⟩, .string ⟨#[65, 88]⟩, .string ⟨#[67, 88]⟩, .string ⟨#[68, 88]⟩, .string ⟨#[66, 88]⟩, .string ⟨#[83, 80]⟩, .string ⟨#[66, 80]⟩, .string ⟨#[83, 73]⟩, .string ⟨#[68, 73]⟩])
theorem kn3_ok : FldOk kn3 := {
  size := by decide +kernel
  ascii := fun j b h => by
    have h1 : kn3.1.data.toList.all (fun b => decide (b.toNat < 128)) = true := by decide +kernel
    exact of_decide_eq_true (List.all_eq_true.1 h1 b (List.mem_of_getElem? h))
  val := by kernel_rfl
  pl := by kernel_rfl
  len := by decide +kernel }
noncomputable def known : List (ByteArray × List Value) := [kn0, kn1, kn2, kn3]
theorem known_ok : ∀ x ∈ known, FldOk x := by
  intro x hx
  simp only [known, List.mem_cons, List.not_mem_nil, or_false] at hx
  rcases hx with rfl | rfl | rfl | rfl
  · exact kn0_ok
  · exact kn1_ok
  · exact kn2_ok
  · exact kn3_ok
noncomputable def zctx : Ctx := env.bare.withH 32 (fieldsE known)
theorem zctx_ok : zctx.Ok Tryd.prog := (Env.bare_ok envOk).withH (fun H args => fields_good known_ok H args)
end Go.Proofs.YtkoeiednpbedlaaDoor
