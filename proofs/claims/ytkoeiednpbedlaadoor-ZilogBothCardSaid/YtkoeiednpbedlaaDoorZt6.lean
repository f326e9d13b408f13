/- form at bytes 192 to 223. By program (genzt.py). -/
import Derived.Test.YtkoeiednpbedlaaDoorZd
import Derived.KernelRfl
namespace Go.Proofs.YtkoeiednpbedlaaDoor
open Go Go.Ly Go.RowKit
set_option linter.unusedVariables false
set_option linter.unusedSimpArgs false
noncomputable def fw192 : List Value := [.string ⟨#[82, 69, 84]⟩, .string ⟨#[78, 90]⟩]
theorem fm192 : ((Ly.run zctx3 6000 [] (Ly.start Tryd.f22 [.int .u8 192] H0)).end?.map fun x => (x.1, x.2.1, x.2.2.next, x.2.2.get 4)) = some ([], .slice (some ⟨4, 0, none⟩) 2 2, 5, some (LO.cells fw192 9)) := by kernel_rfl
noncomputable def fw193 : List Value := [.string ⟨#[80, 79, 80]⟩, .string ⟨#[66, 67]⟩]
theorem fm193 : ((Ly.run zctx3 6000 [] (Ly.start Tryd.f22 [.int .u8 193] H0)).end?.map fun x => (x.1, x.2.1, x.2.2.next, x.2.2.get 2)) = some ([], .slice (some ⟨2, 0, none⟩) 2 2, 3, some (LO.cells fw193 9)) := by kernel_rfl
noncomputable def fw194 : List Value := [.string ⟨#[74, 80]⟩, .string ⟨#[78, 90]⟩, .string ⟨#[110, 110]⟩]
theorem fm194 : ((Ly.run zctx3 6000 [] (Ly.start Tryd.f22 [.int .u8 194] H0)).end?.map fun x => (x.1, x.2.1, x.2.2.next, x.2.2.get 4)) = some ([], .slice (some ⟨4, 0, none⟩) 3 3, 5, some (LO.cells fw194 9)) := by kernel_rfl
noncomputable def fw195 : List Value := [.string ⟨#[74, 80]⟩, .string ⟨#[110, 110]⟩]
theorem fm195 : ((Ly.run zctx3 6000 [] (Ly.start Tryd.f22 [.int .u8 195] H0)).end?.map fun x => (x.1, x.2.1, x.2.2.next, x.2.2.get 2)) = some ([], .slice (some ⟨2, 0, none⟩) 2 2, 3, some (LO.cells fw195 9)) := by kernel_rfl
noncomputable def fw196 : List Value := [.string ⟨#[67, 65, 76, 76]⟩, .string ⟨#[78, 90]⟩, .string ⟨#[110, 110]⟩]
theorem fm196 : ((Ly.run zctx3 6000 [] (Ly.start Tryd.f22 [.int .u8 196] H0)).end?.map fun x => (x.1, x.2.1, x.2.2.next, x.2.2.get 4)) = some ([], .slice (some ⟨4, 0, none⟩) 3 3, 5, some (LO.cells fw196 9)) := by kernel_rfl
noncomputable def fw197 : List Value := [.string ⟨#[80, 85, 83, 72]⟩, .string ⟨#[66, 67]⟩]
theorem fm197 : ((Ly.run zctx3 6000 [] (Ly.start Tryd.f22 [.int .u8 197] H0)).end?.map fun x => (x.1, x.2.1, x.2.2.next, x.2.2.get 2)) = some ([], .slice (some ⟨2, 0, none⟩) 2 2, 3, some (LO.cells fw197 9)) := by kernel_rfl
noncomputable def fw198 : List Value := [.string ⟨#[65, 68, 68]⟩, .string ⟨#[65]⟩, .string ⟨#[110]⟩]
theorem fm198 : ((Ly.run zctx3 6000 [] (Ly.start Tryd.f22 [.int .u8 198] H0)).end?.map fun x => (x.1, x.2.1, x.2.2.next, x.2.2.get 3)) = some ([], .slice (some ⟨3, 0, none⟩) 3 3, 4, some (LO.cells fw198 9)) := by kernel_rfl
noncomputable def fw199 : List Value := [.string ⟨#[82, 83, 84]⟩, .string ⟨#[48]⟩]
theorem fm199 : ((Ly.run zctx3 6000 [] (Ly.start Tryd.f22 [.int .u8 199] H0)).end?.map fun x => (x.1, x.2.1, x.2.2.next, x.2.2.get 4)) = some ([], .slice (some ⟨4, 0, none⟩) 2 2, 5, some (LO.cells fw199 9)) := by kernel_rfl
noncomputable def fw200 : List Value := [.string ⟨#[82, 69, 84]⟩, .string ⟨#[90]⟩]
theorem fm200 : ((Ly.run zctx3 6000 [] (Ly.start Tryd.f22 [.int .u8 200] H0)).end?.map fun x => (x.1, x.2.1, x.2.2.next, x.2.2.get 4)) = some ([], .slice (some ⟨4, 0, none⟩) 2 2, 5, some (LO.cells fw200 9)) := by kernel_rfl
noncomputable def fw201 : List Value := [.string ⟨#[82, 69, 84]⟩]
theorem fm201 : ((Ly.run zctx3 6000 [] (Ly.start Tryd.f22 [.int .u8 201] H0)).end?.map fun x => (x.1, x.2.1, x.2.2.next, x.2.2.get 3)) = some ([], .slice (some ⟨3, 0, none⟩) 1 1, 4, some (LO.cells fw201 9)) := by kernel_rfl
noncomputable def fw202 : List Value := [.string ⟨#[74, 80]⟩, .string ⟨#[90]⟩, .string ⟨#[110, 110]⟩]
theorem fm202 : ((Ly.run zctx3 6000 [] (Ly.start Tryd.f22 [.int .u8 202] H0)).end?.map fun x => (x.1, x.2.1, x.2.2.next, x.2.2.get 4)) = some ([], .slice (some ⟨4, 0, none⟩) 3 3, 5, some (LO.cells fw202 9)) := by kernel_rfl
theorem fm203 : (Ly.run zctx3 6000 [] (Ly.start Tryd.f22 [.int .u8 203] H0)).out? = some ([], .slice none 0 0) := by kernel_rfl
noncomputable def fw204 : List Value := [.string ⟨#[67, 65, 76, 76]⟩, .string ⟨#[90]⟩, .string ⟨#[110, 110]⟩]
theorem fm204 : ((Ly.run zctx3 6000 [] (Ly.start Tryd.f22 [.int .u8 204] H0)).end?.map fun x => (x.1, x.2.1, x.2.2.next, x.2.2.get 4)) = some ([], .slice (some ⟨4, 0, none⟩) 3 3, 5, some (LO.cells fw204 9)) := by kernel_rfl
noncomputable def fw205 : List Value := [.string ⟨#[67, 65, 76, 76]⟩, .string ⟨#[110, 110]⟩]
theorem fm205 : ((Ly.run zctx3 6000 [] (Ly.start Tryd.f22 [.int .u8 205] H0)).end?.map fun x => (x.1, x.2.1, x.2.2.next, x.2.2.get 2)) = some ([], .slice (some ⟨2, 0, none⟩) 2 2, 3, some (LO.cells fw205 9)) := by kernel_rfl
noncomputable def fw206 : List Value := [.string ⟨#[65, 68, 67]⟩, .string ⟨#[65]⟩, .string ⟨#[110]⟩]
theorem fm206 : ((Ly.run zctx3 6000 [] (Ly.start Tryd.f22 [.int .u8 206] H0)).end?.map fun x => (x.1, x.2.1, x.2.2.next, x.2.2.get 3)) = some ([], .slice (some ⟨3, 0, none⟩) 3 3, 4, some (LO.cells fw206 9)) := by kernel_rfl
noncomputable def fw207 : List Value := [.string ⟨#[82, 83, 84]⟩, .string ⟨#[56]⟩]
theorem fm207 : ((Ly.run zctx3 6000 [] (Ly.start Tryd.f22 [.int .u8 207] H0)).end?.map fun x => (x.1, x.2.1, x.2.2.next, x.2.2.get 4)) = some ([], .slice (some ⟨4, 0, none⟩) 2 2, 5, some (LO.cells fw207 9)) := by kernel_rfl
noncomputable def fw208 : List Value := [.string ⟨#[82, 69, 84]⟩, .string ⟨#[78, 67]⟩]
theorem fm208 : ((Ly.run zctx3 6000 [] (Ly.start Tryd.f22 [.int .u8 208] H0)).end?.map fun x => (x.1, x.2.1, x.2.2.next, x.2.2.get 4)) = some ([], .slice (some ⟨4, 0, none⟩) 2 2, 5, some (LO.cells fw208 9)) := by kernel_rfl
noncomputable def fw209 : List Value := [.string ⟨#[80, 79, 80]⟩, .string ⟨#[68, 69]⟩]
theorem fm209 : ((Ly.run zctx3 6000 [] (Ly.start Tryd.f22 [.int .u8 209] H0)).end?.map fun x => (x.1, x.2.1, x.2.2.next, x.2.2.get 2)) = some ([], .slice (some ⟨2, 0, none⟩) 2 2, 3, some (LO.cells fw209 9)) := by kernel_rfl
noncomputable def fw210 : List Value := [.string ⟨#[74, 80]⟩, .string ⟨#[78, 67]⟩, .string ⟨#[110, 110]⟩]
theorem fm210 : ((Ly.run zctx3 6000 [] (Ly.start Tryd.f22 [.int .u8 210] H0)).end?.map fun x => (x.1, x.2.1, x.2.2.next, x.2.2.get 4)) = some ([], .slice (some ⟨4, 0, none⟩) 3 3, 5, some (LO.cells fw210 9)) := by kernel_rfl
noncomputable def fw211 : List Value := [.string ⟨#[79, 85, 84]⟩, .string ⟨#[40, 110, 41]⟩, .string ⟨#[65]⟩]
theorem fm211 : ((Ly.run zctx3 6000 [] (Ly.start Tryd.f22 [.int .u8 211] H0)).end?.map fun x => (x.1, x.2.1, x.2.2.next, x.2.2.get 3)) = some ([], .slice (some ⟨3, 0, none⟩) 3 3, 4, some (LO.cells fw211 9)) := by kernel_rfl
noncomputable def fw212 : List Value := [.string ⟨#[67, 65, 76, 76]⟩, .string ⟨#[78, 67]⟩, .string ⟨#[110, 110]⟩]
theorem fm212 : ((Ly.run zctx3 6000 [] (Ly.start Tryd.f22 [.int .u8 212] H0)).end?.map fun x => (x.1, x.2.1, x.2.2.next, x.2.2.get 4)) = some ([], .slice (some ⟨4, 0, none⟩) 3 3, 5, some (LO.cells fw212 9)) := by kernel_rfl
noncomputable def fw213 : List Value := [.string ⟨#[80, 85, 83, 72]⟩, .string ⟨#[68, 69]⟩]
theorem fm213 : ((Ly.run zctx3 6000 [] (Ly.start Tryd.f22 [.int .u8 213] H0)).end?.map fun x => (x.1, x.2.1, x.2.2.next, x.2.2.get 2)) = some ([], .slice (some ⟨2, 0, none⟩) 2 2, 3, some (LO.cells fw213 9)) := by kernel_rfl
noncomputable def fw214 : List Value := [.string ⟨#[83, 85, 66]⟩, .string ⟨#[110]⟩]
theorem fm214 : ((Ly.run zctx3 6000 [] (Ly.start Tryd.f22 [.int .u8 214] H0)).end?.map fun x => (x.1, x.2.1, x.2.2.next, x.2.2.get 3)) = some ([], .slice (some ⟨3, 0, none⟩) 2 2, 4, some (LO.cells fw214 9)) := by kernel_rfl
noncomputable def fw215 : List Value := [.string ⟨#[82, 83, 84]⟩, .string ⟨#[49, 54]⟩]
theorem fm215 : ((Ly.run zctx3 6000 [] (Ly.start Tryd.f22 [.int .u8 215] H0)).end?.map fun x => (x.1, x.2.1, x.2.2.next, x.2.2.get 4)) = some ([], .slice (some ⟨4, 0, none⟩) 2 2, 5, some (LO.cells fw215 9)) := by kernel_rfl
noncomputable def fw216 : List Value := [.string ⟨#[82, 69, 84]⟩, .string ⟨#[67]⟩]
theorem fm216 : ((Ly.run zctx3 6000 [] (Ly.start Tryd.f22 [.int .u8 216] H0)).end?.map fun x => (x.1, x.2.1, x.2.2.next, x.2.2.get 4)) = some ([], .slice (some ⟨4, 0, none⟩) 2 2, 5, some (LO.cells fw216 9)) := by kernel_rfl
theorem fm217 : (Ly.run zctx3 6000 [] (Ly.start Tryd.f22 [.int .u8 217] H0)).out? = some ([], .slice none 0 0) := by kernel_rfl
noncomputable def fw218 : List Value := [.string ⟨#[74, 80]⟩, .string ⟨#[67]⟩, .string ⟨#[110, 110]⟩]
theorem fm218 : ((Ly.run zctx3 6000 [] (Ly.start Tryd.f22 [.int .u8 218] H0)).end?.map fun x => (x.1, x.2.1, x.2.2.next, x.2.2.get 4)) = some ([], .slice (some ⟨4, 0, none⟩) 3 3, 5, some (LO.cells fw218 9)) := by kernel_rfl
noncomputable def fw219 : List Value := [.string ⟨#[73, 78]⟩, .string ⟨#[65]⟩, .string ⟨#[40, 110, 41]⟩]
theorem fm219 : ((Ly.run zctx3 6000 [] (Ly.start Tryd.f22 [.int .u8 219] H0)).end?.map fun x => (x.1, x.2.1, x.2.2.next, x.2.2.get 3)) = some ([], .slice (some ⟨3, 0, none⟩) 3 3, 4, some (LO.cells fw219 9)) := by kernel_rfl
noncomputable def fw220 : List Value := [.string ⟨#[67, 65, 76, 76]⟩, .string ⟨#[67]⟩, .string ⟨#[110, 110]⟩]
theorem fm220 : ((Ly.run zctx3 6000 [] (Ly.start Tryd.f22 [.int .u8 220] H0)).end?.map fun x => (x.1, x.2.1, x.2.2.next, x.2.2.get 4)) = some ([], .slice (some ⟨4, 0, none⟩) 3 3, 5, some (LO.cells fw220 9)) := by kernel_rfl
theorem fm221 : (Ly.run zctx3 6000 [] (Ly.start Tryd.f22 [.int .u8 221] H0)).out? = some ([], .slice none 0 0) := by kernel_rfl
noncomputable def fw222 : List Value := [.string ⟨#[83, 66, 67]⟩, .string ⟨#[65]⟩, .string ⟨#[110]⟩]
theorem fm222 : ((Ly.run zctx3 6000 [] (Ly.start Tryd.f22 [.int .u8 222] H0)).end?.map fun x => (x.1, x.2.1, x.2.2.next, x.2.2.get 3)) = some ([], .slice (some ⟨3, 0, none⟩) 3 3, 4, some (LO.cells fw222 9)) := by kernel_rfl
noncomputable def fw223 : List Value := [.string ⟨#[82, 83, 84]⟩, .string ⟨#[50, 52]⟩]
theorem fm223 : ((Ly.run zctx3 6000 [] (Ly.start Tryd.f22 [.int .u8 223] H0)).end?.map fun x => (x.1, x.2.1, x.2.2.next, x.2.2.get 4)) = some ([], .slice (some ⟨4, 0, none⟩) 2 2, 5, some (LO.cells fw223 9)) := by kernel_rfl
end Go.Proofs.YtkoeiednpbedlaaDoor
