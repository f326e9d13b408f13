/- form at bytes 224 to 255. By program (genzt.py). -/
import Derived.Test.YtkoeiednpbedlaaDoorZd
import Derived.KernelRfl
namespace Go.Proofs.YtkoeiednpbedlaaDoor
open Go Go.Ly Go.RowKit
set_option linter.unusedVariables false
set_option linter.unusedSimpArgs false
noncomputable def fw224 : List Value := [.string ⟨#[82, 69, 84]⟩, .string ⟨#[80, 79]⟩]
theorem fm224 : ((Ly.run zctx3 6000 [] (Ly.start Tryd.f22 [.int .u8 224] H0)).end?.map fun x => (x.1, x.2.1, x.2.2.next, x.2.2.get 4)) = some ([], .slice (some ⟨4, 0, none⟩) 2 2, 5, some (LO.cells fw224 9)) := by kernel_rfl
noncomputable def fw225 : List Value := [.string ⟨#[80, 79, 80]⟩, .string ⟨#[72, 76]⟩]
theorem fm225 : ((Ly.run zctx3 6000 [] (Ly.start Tryd.f22 [.int .u8 225] H0)).end?.map fun x => (x.1, x.2.1, x.2.2.next, x.2.2.get 2)) = some ([], .slice (some ⟨2, 0, none⟩) 2 2, 3, some (LO.cells fw225 9)) := by kernel_rfl
noncomputable def fw226 : List Value := [.string ⟨#[74, 80]⟩, .string ⟨#[80, 79]⟩, .string ⟨#[110, 110]⟩]
theorem fm226 : ((Ly.run zctx3 6000 [] (Ly.start Tryd.f22 [.int .u8 226] H0)).end?.map fun x => (x.1, x.2.1, x.2.2.next, x.2.2.get 4)) = some ([], .slice (some ⟨4, 0, none⟩) 3 3, 5, some (LO.cells fw226 9)) := by kernel_rfl
noncomputable def fw227 : List Value := [.string ⟨#[69, 88]⟩, .string ⟨#[40, 83, 80, 41]⟩, .string ⟨#[72, 76]⟩]
theorem fm227 : ((Ly.run zctx3 6000 [] (Ly.start Tryd.f22 [.int .u8 227] H0)).end?.map fun x => (x.1, x.2.1, x.2.2.next, x.2.2.get 3)) = some ([], .slice (some ⟨3, 0, none⟩) 3 3, 4, some (LO.cells fw227 9)) := by kernel_rfl
noncomputable def fw228 : List Value := [.string ⟨#[67, 65, 76, 76]⟩, .string ⟨#[80, 79]⟩, .string ⟨#[110, 110]⟩]
theorem fm228 : ((Ly.run zctx3 6000 [] (Ly.start Tryd.f22 [.int .u8 228] H0)).end?.map fun x => (x.1, x.2.1, x.2.2.next, x.2.2.get 4)) = some ([], .slice (some ⟨4, 0, none⟩) 3 3, 5, some (LO.cells fw228 9)) := by kernel_rfl
noncomputable def fw229 : List Value := [.string ⟨#[80, 85, 83, 72]⟩, .string ⟨#[72, 76]⟩]
theorem fm229 : ((Ly.run zctx3 6000 [] (Ly.start Tryd.f22 [.int .u8 229] H0)).end?.map fun x => (x.1, x.2.1, x.2.2.next, x.2.2.get 2)) = some ([], .slice (some ⟨2, 0, none⟩) 2 2, 3, some (LO.cells fw229 9)) := by kernel_rfl
noncomputable def fw230 : List Value := [.string ⟨#[65, 78, 68]⟩, .string ⟨#[110]⟩]
theorem fm230 : ((Ly.run zctx3 6000 [] (Ly.start Tryd.f22 [.int .u8 230] H0)).end?.map fun x => (x.1, x.2.1, x.2.2.next, x.2.2.get 3)) = some ([], .slice (some ⟨3, 0, none⟩) 2 2, 4, some (LO.cells fw230 9)) := by kernel_rfl
noncomputable def fw231 : List Value := [.string ⟨#[82, 83, 84]⟩, .string ⟨#[51, 50]⟩]
theorem fm231 : ((Ly.run zctx3 6000 [] (Ly.start Tryd.f22 [.int .u8 231] H0)).end?.map fun x => (x.1, x.2.1, x.2.2.next, x.2.2.get 4)) = some ([], .slice (some ⟨4, 0, none⟩) 2 2, 5, some (LO.cells fw231 9)) := by kernel_rfl
noncomputable def fw232 : List Value := [.string ⟨#[82, 69, 84]⟩, .string ⟨#[80, 69]⟩]
theorem fm232 : ((Ly.run zctx3 6000 [] (Ly.start Tryd.f22 [.int .u8 232] H0)).end?.map fun x => (x.1, x.2.1, x.2.2.next, x.2.2.get 4)) = some ([], .slice (some ⟨4, 0, none⟩) 2 2, 5, some (LO.cells fw232 9)) := by kernel_rfl
noncomputable def fw233 : List Value := [.string ⟨#[74, 80]⟩, .string ⟨#[40, 72, 76, 41]⟩]
theorem fm233 : ((Ly.run zctx3 6000 [] (Ly.start Tryd.f22 [.int .u8 233] H0)).end?.map fun x => (x.1, x.2.1, x.2.2.next, x.2.2.get 3)) = some ([], .slice (some ⟨3, 0, none⟩) 2 2, 4, some (LO.cells fw233 9)) := by kernel_rfl
noncomputable def fw234 : List Value := [.string ⟨#[74, 80]⟩, .string ⟨#[80, 69]⟩, .string ⟨#[110, 110]⟩]
theorem fm234 : ((Ly.run zctx3 6000 [] (Ly.start Tryd.f22 [.int .u8 234] H0)).end?.map fun x => (x.1, x.2.1, x.2.2.next, x.2.2.get 4)) = some ([], .slice (some ⟨4, 0, none⟩) 3 3, 5, some (LO.cells fw234 9)) := by kernel_rfl
noncomputable def fw235 : List Value := [.string ⟨#[69, 88]⟩, .string ⟨#[68, 69]⟩, .string ⟨#[72, 76]⟩]
theorem fm235 : ((Ly.run zctx3 6000 [] (Ly.start Tryd.f22 [.int .u8 235] H0)).end?.map fun x => (x.1, x.2.1, x.2.2.next, x.2.2.get 3)) = some ([], .slice (some ⟨3, 0, none⟩) 3 3, 4, some (LO.cells fw235 9)) := by kernel_rfl
noncomputable def fw236 : List Value := [.string ⟨#[67, 65, 76, 76]⟩, .string ⟨#[80, 69]⟩, .string ⟨#[110, 110]⟩]
theorem fm236 : ((Ly.run zctx3 6000 [] (Ly.start Tryd.f22 [.int .u8 236] H0)).end?.map fun x => (x.1, x.2.1, x.2.2.next, x.2.2.get 4)) = some ([], .slice (some ⟨4, 0, none⟩) 3 3, 5, some (LO.cells fw236 9)) := by kernel_rfl
theorem fm237 : (Ly.run zctx3 6000 [] (Ly.start Tryd.f22 [.int .u8 237] H0)).out? = some ([], .slice none 0 0) := by kernel_rfl
noncomputable def fw238 : List Value := [.string ⟨#[88, 79, 82]⟩, .string ⟨#[110]⟩]
theorem fm238 : ((Ly.run zctx3 6000 [] (Ly.start Tryd.f22 [.int .u8 238] H0)).end?.map fun x => (x.1, x.2.1, x.2.2.next, x.2.2.get 3)) = some ([], .slice (some ⟨3, 0, none⟩) 2 2, 4, some (LO.cells fw238 9)) := by kernel_rfl
noncomputable def fw239 : List Value := [.string ⟨#[82, 83, 84]⟩, .string ⟨#[52, 48]⟩]
theorem fm239 : ((Ly.run zctx3 6000 [] (Ly.start Tryd.f22 [.int .u8 239] H0)).end?.map fun x => (x.1, x.2.1, x.2.2.next, x.2.2.get 4)) = some ([], .slice (some ⟨4, 0, none⟩) 2 2, 5, some (LO.cells fw239 9)) := by kernel_rfl
noncomputable def fw240 : List Value := [.string ⟨#[82, 69, 84]⟩, .string ⟨#[80]⟩]
theorem fm240 : ((Ly.run zctx3 6000 [] (Ly.start Tryd.f22 [.int .u8 240] H0)).end?.map fun x => (x.1, x.2.1, x.2.2.next, x.2.2.get 4)) = some ([], .slice (some ⟨4, 0, none⟩) 2 2, 5, some (LO.cells fw240 9)) := by kernel_rfl
noncomputable def fw241 : List Value := [.string ⟨#[80, 79, 80]⟩, .string ⟨#[65, 70]⟩]
theorem fm241 : ((Ly.run zctx3 6000 [] (Ly.start Tryd.f22 [.int .u8 241] H0)).end?.map fun x => (x.1, x.2.1, x.2.2.next, x.2.2.get 2)) = some ([], .slice (some ⟨2, 0, none⟩) 2 2, 3, some (LO.cells fw241 9)) := by kernel_rfl
noncomputable def fw242 : List Value := [.string ⟨#[74, 80]⟩, .string ⟨#[80]⟩, .string ⟨#[110, 110]⟩]
theorem fm242 : ((Ly.run zctx3 6000 [] (Ly.start Tryd.f22 [.int .u8 242] H0)).end?.map fun x => (x.1, x.2.1, x.2.2.next, x.2.2.get 4)) = some ([], .slice (some ⟨4, 0, none⟩) 3 3, 5, some (LO.cells fw242 9)) := by kernel_rfl
noncomputable def fw243 : List Value := [.string ⟨#[68, 73]⟩]
theorem fm243 : ((Ly.run zctx3 6000 [] (Ly.start Tryd.f22 [.int .u8 243] H0)).end?.map fun x => (x.1, x.2.1, x.2.2.next, x.2.2.get 3)) = some ([], .slice (some ⟨3, 0, none⟩) 1 1, 4, some (LO.cells fw243 9)) := by kernel_rfl
noncomputable def fw244 : List Value := [.string ⟨#[67, 65, 76, 76]⟩, .string ⟨#[80]⟩, .string ⟨#[110, 110]⟩]
theorem fm244 : ((Ly.run zctx3 6000 [] (Ly.start Tryd.f22 [.int .u8 244] H0)).end?.map fun x => (x.1, x.2.1, x.2.2.next, x.2.2.get 4)) = some ([], .slice (some ⟨4, 0, none⟩) 3 3, 5, some (LO.cells fw244 9)) := by kernel_rfl
noncomputable def fw245 : List Value := [.string ⟨#[80, 85, 83, 72]⟩, .string ⟨#[65, 70]⟩]
theorem fm245 : ((Ly.run zctx3 6000 [] (Ly.start Tryd.f22 [.int .u8 245] H0)).end?.map fun x => (x.1, x.2.1, x.2.2.next, x.2.2.get 2)) = some ([], .slice (some ⟨2, 0, none⟩) 2 2, 3, some (LO.cells fw245 9)) := by kernel_rfl
noncomputable def fw246 : List Value := [.string ⟨#[79, 82]⟩, .string ⟨#[110]⟩]
theorem fm246 : ((Ly.run zctx3 6000 [] (Ly.start Tryd.f22 [.int .u8 246] H0)).end?.map fun x => (x.1, x.2.1, x.2.2.next, x.2.2.get 3)) = some ([], .slice (some ⟨3, 0, none⟩) 2 2, 4, some (LO.cells fw246 9)) := by kernel_rfl
noncomputable def fw247 : List Value := [.string ⟨#[82, 83, 84]⟩, .string ⟨#[52, 56]⟩]
theorem fm247 : ((Ly.run zctx3 6000 [] (Ly.start Tryd.f22 [.int .u8 247] H0)).end?.map fun x => (x.1, x.2.1, x.2.2.next, x.2.2.get 4)) = some ([], .slice (some ⟨4, 0, none⟩) 2 2, 5, some (LO.cells fw247 9)) := by kernel_rfl
noncomputable def fw248 : List Value := [.string ⟨#[82, 69, 84]⟩, .string ⟨#[77]⟩]
theorem fm248 : ((Ly.run zctx3 6000 [] (Ly.start Tryd.f22 [.int .u8 248] H0)).end?.map fun x => (x.1, x.2.1, x.2.2.next, x.2.2.get 4)) = some ([], .slice (some ⟨4, 0, none⟩) 2 2, 5, some (LO.cells fw248 9)) := by kernel_rfl
noncomputable def fw249 : List Value := [.string ⟨#[76, 68]⟩, .string ⟨#[83, 80]⟩, .string ⟨#[72, 76]⟩]
theorem fm249 : ((Ly.run zctx3 6000 [] (Ly.start Tryd.f22 [.int .u8 249] H0)).end?.map fun x => (x.1, x.2.1, x.2.2.next, x.2.2.get 3)) = some ([], .slice (some ⟨3, 0, none⟩) 3 3, 4, some (LO.cells fw249 9)) := by kernel_rfl
noncomputable def fw250 : List Value := [.string ⟨#[74, 80]⟩, .string ⟨#[77]⟩, .string ⟨#[110, 110]⟩]
theorem fm250 : ((Ly.run zctx3 6000 [] (Ly.start Tryd.f22 [.int .u8 250] H0)).end?.map fun x => (x.1, x.2.1, x.2.2.next, x.2.2.get 4)) = some ([], .slice (some ⟨4, 0, none⟩) 3 3, 5, some (LO.cells fw250 9)) := by kernel_rfl
noncomputable def fw251 : List Value := [.string ⟨#[69, 73]⟩]
theorem fm251 : ((Ly.run zctx3 6000 [] (Ly.start Tryd.f22 [.int .u8 251] H0)).end?.map fun x => (x.1, x.2.1, x.2.2.next, x.2.2.get 3)) = some ([], .slice (some ⟨3, 0, none⟩) 1 1, 4, some (LO.cells fw251 9)) := by kernel_rfl
noncomputable def fw252 : List Value := [.string ⟨#[67, 65, 76, 76]⟩, .string ⟨#[77]⟩, .string ⟨#[110, 110]⟩]
theorem fm252 : ((Ly.run zctx3 6000 [] (Ly.start Tryd.f22 [.int .u8 252] H0)).end?.map fun x => (x.1, x.2.1, x.2.2.next, x.2.2.get 4)) = some ([], .slice (some ⟨4, 0, none⟩) 3 3, 5, some (LO.cells fw252 9)) := by kernel_rfl
theorem fm253 : (Ly.run zctx3 6000 [] (Ly.start Tryd.f22 [.int .u8 253] H0)).out? = some ([], .slice none 0 0) := by kernel_rfl
noncomputable def fw254 : List Value := [.string ⟨#[67, 80]⟩, .string ⟨#[110]⟩]
theorem fm254 : ((Ly.run zctx3 6000 [] (Ly.start Tryd.f22 [.int .u8 254] H0)).end?.map fun x => (x.1, x.2.1, x.2.2.next, x.2.2.get 3)) = some ([], .slice (some ⟨3, 0, none⟩) 2 2, 4, some (LO.cells fw254 9)) := by kernel_rfl
noncomputable def fw255 : List Value := [.string ⟨#[82, 83, 84]⟩, .string ⟨#[53, 54]⟩]
theorem fm255 : ((Ly.run zctx3 6000 [] (Ly.start Tryd.f22 [.int .u8 255] H0)).end?.map fun x => (x.1, x.2.1, x.2.2.next, x.2.2.get 4)) = some ([], .slice (some ⟨4, 0, none⟩) 2 2, 5, some (LO.cells fw255 9)) := by kernel_rfl
end Go.Proofs.YtkoeiednpbedlaaDoor
