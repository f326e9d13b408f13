/- form at bytes 160 to 191. By program (genzt.py). -/
import Derived.Test.YtkoeiednpbedlaaDoorZd
import Derived.KernelRfl
namespace Go.Proofs.YtkoeiednpbedlaaDoor
open Go Go.Ly Go.RowKit
set_option linter.unusedVariables false
set_option linter.unusedSimpArgs false
noncomputable def fw160 : List Value := [.string ⟨#[65, 78, 68]⟩, .string ⟨#[66]⟩]
theorem fm160 : ((Ly.run zctx3 6000 [] (Ly.start Tryd.f22 [.int .u8 160] H0)).end?.map fun x => (x.1, x.2.1, x.2.2.next, x.2.2.get 3)) = some ([], .slice (some ⟨3, 0, none⟩) 2 2, 4, some (LO.cells fw160 9)) := by kernel_rfl
noncomputable def fw161 : List Value := [.string ⟨#[65, 78, 68]⟩, .string ⟨#[67]⟩]
theorem fm161 : ((Ly.run zctx3 6000 [] (Ly.start Tryd.f22 [.int .u8 161] H0)).end?.map fun x => (x.1, x.2.1, x.2.2.next, x.2.2.get 3)) = some ([], .slice (some ⟨3, 0, none⟩) 2 2, 4, some (LO.cells fw161 9)) := by kernel_rfl
noncomputable def fw162 : List Value := [.string ⟨#[65, 78, 68]⟩, .string ⟨#[68]⟩]
theorem fm162 : ((Ly.run zctx3 6000 [] (Ly.start Tryd.f22 [.int .u8 162] H0)).end?.map fun x => (x.1, x.2.1, x.2.2.next, x.2.2.get 3)) = some ([], .slice (some ⟨3, 0, none⟩) 2 2, 4, some (LO.cells fw162 9)) := by kernel_rfl
noncomputable def fw163 : List Value := [.string ⟨#[65, 78, 68]⟩, .string ⟨#[69]⟩]
theorem fm163 : ((Ly.run zctx3 6000 [] (Ly.start Tryd.f22 [.int .u8 163] H0)).end?.map fun x => (x.1, x.2.1, x.2.2.next, x.2.2.get 3)) = some ([], .slice (some ⟨3, 0, none⟩) 2 2, 4, some (LO.cells fw163 9)) := by kernel_rfl
noncomputable def fw164 : List Value := [.string ⟨#[65, 78, 68]⟩, .string ⟨#[72]⟩]
theorem fm164 : ((Ly.run zctx3 6000 [] (Ly.start Tryd.f22 [.int .u8 164] H0)).end?.map fun x => (x.1, x.2.1, x.2.2.next, x.2.2.get 3)) = some ([], .slice (some ⟨3, 0, none⟩) 2 2, 4, some (LO.cells fw164 9)) := by kernel_rfl
noncomputable def fw165 : List Value := [.string ⟨#[65, 78, 68]⟩, .string ⟨#[76]⟩]
theorem fm165 : ((Ly.run zctx3 6000 [] (Ly.start Tryd.f22 [.int .u8 165] H0)).end?.map fun x => (x.1, x.2.1, x.2.2.next, x.2.2.get 3)) = some ([], .slice (some ⟨3, 0, none⟩) 2 2, 4, some (LO.cells fw165 9)) := by kernel_rfl
noncomputable def fw166 : List Value := [.string ⟨#[65, 78, 68]⟩, .string ⟨#[40, 72, 76, 41]⟩]
theorem fm166 : ((Ly.run zctx3 6000 [] (Ly.start Tryd.f22 [.int .u8 166] H0)).end?.map fun x => (x.1, x.2.1, x.2.2.next, x.2.2.get 3)) = some ([], .slice (some ⟨3, 0, none⟩) 2 2, 4, some (LO.cells fw166 9)) := by kernel_rfl
noncomputable def fw167 : List Value := [.string ⟨#[65, 78, 68]⟩, .string ⟨#[65]⟩]
theorem fm167 : ((Ly.run zctx3 6000 [] (Ly.start Tryd.f22 [.int .u8 167] H0)).end?.map fun x => (x.1, x.2.1, x.2.2.next, x.2.2.get 3)) = some ([], .slice (some ⟨3, 0, none⟩) 2 2, 4, some (LO.cells fw167 9)) := by kernel_rfl
noncomputable def fw168 : List Value := [.string ⟨#[88, 79, 82]⟩, .string ⟨#[66]⟩]
theorem fm168 : ((Ly.run zctx3 6000 [] (Ly.start Tryd.f22 [.int .u8 168] H0)).end?.map fun x => (x.1, x.2.1, x.2.2.next, x.2.2.get 3)) = some ([], .slice (some ⟨3, 0, none⟩) 2 2, 4, some (LO.cells fw168 9)) := by kernel_rfl
noncomputable def fw169 : List Value := [.string ⟨#[88, 79, 82]⟩, .string ⟨#[67]⟩]
theorem fm169 : ((Ly.run zctx3 6000 [] (Ly.start Tryd.f22 [.int .u8 169] H0)).end?.map fun x => (x.1, x.2.1, x.2.2.next, x.2.2.get 3)) = some ([], .slice (some ⟨3, 0, none⟩) 2 2, 4, some (LO.cells fw169 9)) := by kernel_rfl
noncomputable def fw170 : List Value := [.string ⟨#[88, 79, 82]⟩, .string ⟨#[68]⟩]
theorem fm170 : ((Ly.run zctx3 6000 [] (Ly.start Tryd.f22 [.int .u8 170] H0)).end?.map fun x => (x.1, x.2.1, x.2.2.next, x.2.2.get 3)) = some ([], .slice (some ⟨3, 0, none⟩) 2 2, 4, some (LO.cells fw170 9)) := by kernel_rfl
noncomputable def fw171 : List Value := [.string ⟨#[88, 79, 82]⟩, .string ⟨#[69]⟩]
theorem fm171 : ((Ly.run zctx3 6000 [] (Ly.start Tryd.f22 [.int .u8 171] H0)).end?.map fun x => (x.1, x.2.1, x.2.2.next, x.2.2.get 3)) = some ([], .slice (some ⟨3, 0, none⟩) 2 2, 4, some (LO.cells fw171 9)) := by kernel_rfl
noncomputable def fw172 : List Value := [.string ⟨#[88, 79, 82]⟩, .string ⟨#[72]⟩]
theorem fm172 : ((Ly.run zctx3 6000 [] (Ly.start Tryd.f22 [.int .u8 172] H0)).end?.map fun x => (x.1, x.2.1, x.2.2.next, x.2.2.get 3)) = some ([], .slice (some ⟨3, 0, none⟩) 2 2, 4, some (LO.cells fw172 9)) := by kernel_rfl
noncomputable def fw173 : List Value := [.string ⟨#[88, 79, 82]⟩, .string ⟨#[76]⟩]
theorem fm173 : ((Ly.run zctx3 6000 [] (Ly.start Tryd.f22 [.int .u8 173] H0)).end?.map fun x => (x.1, x.2.1, x.2.2.next, x.2.2.get 3)) = some ([], .slice (some ⟨3, 0, none⟩) 2 2, 4, some (LO.cells fw173 9)) := by kernel_rfl
noncomputable def fw174 : List Value := [.string ⟨#[88, 79, 82]⟩, .string ⟨#[40, 72, 76, 41]⟩]
theorem fm174 : ((Ly.run zctx3 6000 [] (Ly.start Tryd.f22 [.int .u8 174] H0)).end?.map fun x => (x.1, x.2.1, x.2.2.next, x.2.2.get 3)) = some ([], .slice (some ⟨3, 0, none⟩) 2 2, 4, some (LO.cells fw174 9)) := by kernel_rfl
noncomputable def fw175 : List Value := [.string ⟨#[88, 79, 82]⟩, .string ⟨#[65]⟩]
theorem fm175 : ((Ly.run zctx3 6000 [] (Ly.start Tryd.f22 [.int .u8 175] H0)).end?.map fun x => (x.1, x.2.1, x.2.2.next, x.2.2.get 3)) = some ([], .slice (some ⟨3, 0, none⟩) 2 2, 4, some (LO.cells fw175 9)) := by kernel_rfl
noncomputable def fw176 : List Value := [.string ⟨#[79, 82]⟩, .string ⟨#[66]⟩]
theorem fm176 : ((Ly.run zctx3 6000 [] (Ly.start Tryd.f22 [.int .u8 176] H0)).end?.map fun x => (x.1, x.2.1, x.2.2.next, x.2.2.get 3)) = some ([], .slice (some ⟨3, 0, none⟩) 2 2, 4, some (LO.cells fw176 9)) := by kernel_rfl
noncomputable def fw177 : List Value := [.string ⟨#[79, 82]⟩, .string ⟨#[67]⟩]
theorem fm177 : ((Ly.run zctx3 6000 [] (Ly.start Tryd.f22 [.int .u8 177] H0)).end?.map fun x => (x.1, x.2.1, x.2.2.next, x.2.2.get 3)) = some ([], .slice (some ⟨3, 0, none⟩) 2 2, 4, some (LO.cells fw177 9)) := by kernel_rfl
noncomputable def fw178 : List Value := [.string ⟨#[79, 82]⟩, .string ⟨#[68]⟩]
theorem fm178 : ((Ly.run zctx3 6000 [] (Ly.start Tryd.f22 [.int .u8 178] H0)).end?.map fun x => (x.1, x.2.1, x.2.2.next, x.2.2.get 3)) = some ([], .slice (some ⟨3, 0, none⟩) 2 2, 4, some (LO.cells fw178 9)) := by kernel_rfl
noncomputable def fw179 : List Value := [.string ⟨#[79, 82]⟩, .string ⟨#[69]⟩]
theorem fm179 : ((Ly.run zctx3 6000 [] (Ly.start Tryd.f22 [.int .u8 179] H0)).end?.map fun x => (x.1, x.2.1, x.2.2.next, x.2.2.get 3)) = some ([], .slice (some ⟨3, 0, none⟩) 2 2, 4, some (LO.cells fw179 9)) := by kernel_rfl
noncomputable def fw180 : List Value := [.string ⟨#[79, 82]⟩, .string ⟨#[72]⟩]
theorem fm180 : ((Ly.run zctx3 6000 [] (Ly.start Tryd.f22 [.int .u8 180] H0)).end?.map fun x => (x.1, x.2.1, x.2.2.next, x.2.2.get 3)) = some ([], .slice (some ⟨3, 0, none⟩) 2 2, 4, some (LO.cells fw180 9)) := by kernel_rfl
noncomputable def fw181 : List Value := [.string ⟨#[79, 82]⟩, .string ⟨#[76]⟩]
theorem fm181 : ((Ly.run zctx3 6000 [] (Ly.start Tryd.f22 [.int .u8 181] H0)).end?.map fun x => (x.1, x.2.1, x.2.2.next, x.2.2.get 3)) = some ([], .slice (some ⟨3, 0, none⟩) 2 2, 4, some (LO.cells fw181 9)) := by kernel_rfl
noncomputable def fw182 : List Value := [.string ⟨#[79, 82]⟩, .string ⟨#[40, 72, 76, 41]⟩]
theorem fm182 : ((Ly.run zctx3 6000 [] (Ly.start Tryd.f22 [.int .u8 182] H0)).end?.map fun x => (x.1, x.2.1, x.2.2.next, x.2.2.get 3)) = some ([], .slice (some ⟨3, 0, none⟩) 2 2, 4, some (LO.cells fw182 9)) := by kernel_rfl
noncomputable def fw183 : List Value := [.string ⟨#[79, 82]⟩, .string ⟨#[65]⟩]
theorem fm183 : ((Ly.run zctx3 6000 [] (Ly.start Tryd.f22 [.int .u8 183] H0)).end?.map fun x => (x.1, x.2.1, x.2.2.next, x.2.2.get 3)) = some ([], .slice (some ⟨3, 0, none⟩) 2 2, 4, some (LO.cells fw183 9)) := by kernel_rfl
noncomputable def fw184 : List Value := [.string ⟨#[67, 80]⟩, .string ⟨#[66]⟩]
theorem fm184 : ((Ly.run zctx3 6000 [] (Ly.start Tryd.f22 [.int .u8 184] H0)).end?.map fun x => (x.1, x.2.1, x.2.2.next, x.2.2.get 3)) = some ([], .slice (some ⟨3, 0, none⟩) 2 2, 4, some (LO.cells fw184 9)) := by kernel_rfl
noncomputable def fw185 : List Value := [.string ⟨#[67, 80]⟩, .string ⟨#[67]⟩]
theorem fm185 : ((Ly.run zctx3 6000 [] (Ly.start Tryd.f22 [.int .u8 185] H0)).end?.map fun x => (x.1, x.2.1, x.2.2.next, x.2.2.get 3)) = some ([], .slice (some ⟨3, 0, none⟩) 2 2, 4, some (LO.cells fw185 9)) := by kernel_rfl
noncomputable def fw186 : List Value := [.string ⟨#[67, 80]⟩, .string ⟨#[68]⟩]
theorem fm186 : ((Ly.run zctx3 6000 [] (Ly.start Tryd.f22 [.int .u8 186] H0)).end?.map fun x => (x.1, x.2.1, x.2.2.next, x.2.2.get 3)) = some ([], .slice (some ⟨3, 0, none⟩) 2 2, 4, some (LO.cells fw186 9)) := by kernel_rfl
noncomputable def fw187 : List Value := [.string ⟨#[67, 80]⟩, .string ⟨#[69]⟩]
theorem fm187 : ((Ly.run zctx3 6000 [] (Ly.start Tryd.f22 [.int .u8 187] H0)).end?.map fun x => (x.1, x.2.1, x.2.2.next, x.2.2.get 3)) = some ([], .slice (some ⟨3, 0, none⟩) 2 2, 4, some (LO.cells fw187 9)) := by kernel_rfl
noncomputable def fw188 : List Value := [.string ⟨#[67, 80]⟩, .string ⟨#[72]⟩]
theorem fm188 : ((Ly.run zctx3 6000 [] (Ly.start Tryd.f22 [.int .u8 188] H0)).end?.map fun x => (x.1, x.2.1, x.2.2.next, x.2.2.get 3)) = some ([], .slice (some ⟨3, 0, none⟩) 2 2, 4, some (LO.cells fw188 9)) := by kernel_rfl
noncomputable def fw189 : List Value := [.string ⟨#[67, 80]⟩, .string ⟨#[76]⟩]
theorem fm189 : ((Ly.run zctx3 6000 [] (Ly.start Tryd.f22 [.int .u8 189] H0)).end?.map fun x => (x.1, x.2.1, x.2.2.next, x.2.2.get 3)) = some ([], .slice (some ⟨3, 0, none⟩) 2 2, 4, some (LO.cells fw189 9)) := by kernel_rfl
noncomputable def fw190 : List Value := [.string ⟨#[67, 80]⟩, .string ⟨#[40, 72, 76, 41]⟩]
theorem fm190 : ((Ly.run zctx3 6000 [] (Ly.start Tryd.f22 [.int .u8 190] H0)).end?.map fun x => (x.1, x.2.1, x.2.2.next, x.2.2.get 3)) = some ([], .slice (some ⟨3, 0, none⟩) 2 2, 4, some (LO.cells fw190 9)) := by kernel_rfl
noncomputable def fw191 : List Value := [.string ⟨#[67, 80]⟩, .string ⟨#[65]⟩]
theorem fm191 : ((Ly.run zctx3 6000 [] (Ly.start Tryd.f22 [.int .u8 191] H0)).end?.map fun x => (x.1, x.2.1, x.2.2.next, x.2.2.get 3)) = some ([], .slice (some ⟨3, 0, none⟩) 2 2, 4, some (LO.cells fw191 9)) := by kernel_rfl
end Go.Proofs.YtkoeiednpbedlaaDoor
