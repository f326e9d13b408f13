/- form at bytes 32 to 63. By program (genzt.py). -/
import Derived.Test.YtkoeiednpbedlaaDoorZd
import Derived.KernelRfl
namespace Go.Proofs.YtkoeiednpbedlaaDoor
open Go Go.Ly Go.RowKit
set_option linter.unusedVariables false
set_option linter.unusedSimpArgs false
theorem fm32 : (Ly.run zctx3 6000 [] (Ly.start Tryd.f22 [.int .u8 32] H0)).out? = some ([], .slice none 0 0) := by kernel_rfl
noncomputable def fw33 : List Value := [.string ⟨#[76, 68]⟩, .string ⟨#[72, 76]⟩, .string ⟨#[110, 110]⟩]
theorem fm33 : ((Ly.run zctx3 6000 [] (Ly.start Tryd.f22 [.int .u8 33] H0)).end?.map fun x => (x.1, x.2.1, x.2.2.next, x.2.2.get 2)) = some ([], .slice (some ⟨2, 0, none⟩) 3 3, 3, some (LO.cells fw33 9)) := by kernel_rfl
noncomputable def fw34 : List Value := [.string ⟨#[76, 68]⟩, .string ⟨#[40, 110, 110, 41]⟩, .string ⟨#[72, 76]⟩]
theorem fm34 : ((Ly.run zctx3 6000 [] (Ly.start Tryd.f22 [.int .u8 34] H0)).end?.map fun x => (x.1, x.2.1, x.2.2.next, x.2.2.get 2)) = some ([], .slice (some ⟨2, 0, none⟩) 3 3, 3, some (LO.cells fw34 9)) := by kernel_rfl
noncomputable def fw35 : List Value := [.string ⟨#[73, 78, 67]⟩, .string ⟨#[72, 76]⟩]
theorem fm35 : ((Ly.run zctx3 6000 [] (Ly.start Tryd.f22 [.int .u8 35] H0)).end?.map fun x => (x.1, x.2.1, x.2.2.next, x.2.2.get 2)) = some ([], .slice (some ⟨2, 0, none⟩) 2 2, 3, some (LO.cells fw35 9)) := by kernel_rfl
noncomputable def fw36 : List Value := [.string ⟨#[73, 78, 67]⟩, .string ⟨#[72]⟩]
theorem fm36 : ((Ly.run zctx3 6000 [] (Ly.start Tryd.f22 [.int .u8 36] H0)).end?.map fun x => (x.1, x.2.1, x.2.2.next, x.2.2.get 2)) = some ([], .slice (some ⟨2, 0, none⟩) 2 2, 3, some (LO.cells fw36 9)) := by kernel_rfl
noncomputable def fw37 : List Value := [.string ⟨#[68, 69, 67]⟩, .string ⟨#[72]⟩]
theorem fm37 : ((Ly.run zctx3 6000 [] (Ly.start Tryd.f22 [.int .u8 37] H0)).end?.map fun x => (x.1, x.2.1, x.2.2.next, x.2.2.get 2)) = some ([], .slice (some ⟨2, 0, none⟩) 2 2, 3, some (LO.cells fw37 9)) := by kernel_rfl
noncomputable def fw38 : List Value := [.string ⟨#[76, 68]⟩, .string ⟨#[72]⟩, .string ⟨#[110]⟩]
theorem fm38 : ((Ly.run zctx3 6000 [] (Ly.start Tryd.f22 [.int .u8 38] H0)).end?.map fun x => (x.1, x.2.1, x.2.2.next, x.2.2.get 2)) = some ([], .slice (some ⟨2, 0, none⟩) 3 3, 3, some (LO.cells fw38 9)) := by kernel_rfl
noncomputable def fw39 : List Value := [.string ⟨#[68, 65, 65]⟩]
theorem fm39 : ((Ly.run zctx3 6000 [] (Ly.start Tryd.f22 [.int .u8 39] H0)).end?.map fun x => (x.1, x.2.1, x.2.2.next, x.2.2.get 2)) = some ([], .slice (some ⟨2, 0, none⟩) 1 1, 3, some (LO.cells fw39 9)) := by kernel_rfl
theorem fm40 : (Ly.run zctx3 6000 [] (Ly.start Tryd.f22 [.int .u8 40] H0)).out? = some ([], .slice none 0 0) := by kernel_rfl
noncomputable def fw41 : List Value := [.string ⟨#[65, 68, 68]⟩, .string ⟨#[72, 76]⟩, .string ⟨#[72, 76]⟩]
theorem fm41 : ((Ly.run zctx3 6000 [] (Ly.start Tryd.f22 [.int .u8 41] H0)).end?.map fun x => (x.1, x.2.1, x.2.2.next, x.2.2.get 2)) = some ([], .slice (some ⟨2, 0, none⟩) 3 3, 3, some (LO.cells fw41 9)) := by kernel_rfl
noncomputable def fw42 : List Value := [.string ⟨#[76, 68]⟩, .string ⟨#[72, 76]⟩, .string ⟨#[40, 110, 110, 41]⟩]
theorem fm42 : ((Ly.run zctx3 6000 [] (Ly.start Tryd.f22 [.int .u8 42] H0)).end?.map fun x => (x.1, x.2.1, x.2.2.next, x.2.2.get 2)) = some ([], .slice (some ⟨2, 0, none⟩) 3 3, 3, some (LO.cells fw42 9)) := by kernel_rfl
noncomputable def fw43 : List Value := [.string ⟨#[68, 69, 67]⟩, .string ⟨#[72, 76]⟩]
theorem fm43 : ((Ly.run zctx3 6000 [] (Ly.start Tryd.f22 [.int .u8 43] H0)).end?.map fun x => (x.1, x.2.1, x.2.2.next, x.2.2.get 2)) = some ([], .slice (some ⟨2, 0, none⟩) 2 2, 3, some (LO.cells fw43 9)) := by kernel_rfl
noncomputable def fw44 : List Value := [.string ⟨#[73, 78, 67]⟩, .string ⟨#[76]⟩]
theorem fm44 : ((Ly.run zctx3 6000 [] (Ly.start Tryd.f22 [.int .u8 44] H0)).end?.map fun x => (x.1, x.2.1, x.2.2.next, x.2.2.get 2)) = some ([], .slice (some ⟨2, 0, none⟩) 2 2, 3, some (LO.cells fw44 9)) := by kernel_rfl
noncomputable def fw45 : List Value := [.string ⟨#[68, 69, 67]⟩, .string ⟨#[76]⟩]
theorem fm45 : ((Ly.run zctx3 6000 [] (Ly.start Tryd.f22 [.int .u8 45] H0)).end?.map fun x => (x.1, x.2.1, x.2.2.next, x.2.2.get 2)) = some ([], .slice (some ⟨2, 0, none⟩) 2 2, 3, some (LO.cells fw45 9)) := by kernel_rfl
noncomputable def fw46 : List Value := [.string ⟨#[76, 68]⟩, .string ⟨#[76]⟩, .string ⟨#[110]⟩]
theorem fm46 : ((Ly.run zctx3 6000 [] (Ly.start Tryd.f22 [.int .u8 46] H0)).end?.map fun x => (x.1, x.2.1, x.2.2.next, x.2.2.get 2)) = some ([], .slice (some ⟨2, 0, none⟩) 3 3, 3, some (LO.cells fw46 9)) := by kernel_rfl
noncomputable def fw47 : List Value := [.string ⟨#[67, 80, 76]⟩]
theorem fm47 : ((Ly.run zctx3 6000 [] (Ly.start Tryd.f22 [.int .u8 47] H0)).end?.map fun x => (x.1, x.2.1, x.2.2.next, x.2.2.get 2)) = some ([], .slice (some ⟨2, 0, none⟩) 1 1, 3, some (LO.cells fw47 9)) := by kernel_rfl
theorem fm48 : (Ly.run zctx3 6000 [] (Ly.start Tryd.f22 [.int .u8 48] H0)).out? = some ([], .slice none 0 0) := by kernel_rfl
noncomputable def fw49 : List Value := [.string ⟨#[76, 68]⟩, .string ⟨#[83, 80]⟩, .string ⟨#[110, 110]⟩]
theorem fm49 : ((Ly.run zctx3 6000 [] (Ly.start Tryd.f22 [.int .u8 49] H0)).end?.map fun x => (x.1, x.2.1, x.2.2.next, x.2.2.get 2)) = some ([], .slice (some ⟨2, 0, none⟩) 3 3, 3, some (LO.cells fw49 9)) := by kernel_rfl
noncomputable def fw50 : List Value := [.string ⟨#[76, 68]⟩, .string ⟨#[40, 110, 110, 41]⟩, .string ⟨#[65]⟩]
theorem fm50 : ((Ly.run zctx3 6000 [] (Ly.start Tryd.f22 [.int .u8 50] H0)).end?.map fun x => (x.1, x.2.1, x.2.2.next, x.2.2.get 2)) = some ([], .slice (some ⟨2, 0, none⟩) 3 3, 3, some (LO.cells fw50 9)) := by kernel_rfl
noncomputable def fw51 : List Value := [.string ⟨#[73, 78, 67]⟩, .string ⟨#[83, 80]⟩]
theorem fm51 : ((Ly.run zctx3 6000 [] (Ly.start Tryd.f22 [.int .u8 51] H0)).end?.map fun x => (x.1, x.2.1, x.2.2.next, x.2.2.get 2)) = some ([], .slice (some ⟨2, 0, none⟩) 2 2, 3, some (LO.cells fw51 9)) := by kernel_rfl
noncomputable def fw52 : List Value := [.string ⟨#[73, 78, 67]⟩, .string ⟨#[40, 72, 76, 41]⟩]
theorem fm52 : ((Ly.run zctx3 6000 [] (Ly.start Tryd.f22 [.int .u8 52] H0)).end?.map fun x => (x.1, x.2.1, x.2.2.next, x.2.2.get 2)) = some ([], .slice (some ⟨2, 0, none⟩) 2 2, 3, some (LO.cells fw52 9)) := by kernel_rfl
noncomputable def fw53 : List Value := [.string ⟨#[68, 69, 67]⟩, .string ⟨#[40, 72, 76, 41]⟩]
theorem fm53 : ((Ly.run zctx3 6000 [] (Ly.start Tryd.f22 [.int .u8 53] H0)).end?.map fun x => (x.1, x.2.1, x.2.2.next, x.2.2.get 2)) = some ([], .slice (some ⟨2, 0, none⟩) 2 2, 3, some (LO.cells fw53 9)) := by kernel_rfl
noncomputable def fw54 : List Value := [.string ⟨#[76, 68]⟩, .string ⟨#[40, 72, 76, 41]⟩, .string ⟨#[110]⟩]
theorem fm54 : ((Ly.run zctx3 6000 [] (Ly.start Tryd.f22 [.int .u8 54] H0)).end?.map fun x => (x.1, x.2.1, x.2.2.next, x.2.2.get 2)) = some ([], .slice (some ⟨2, 0, none⟩) 3 3, 3, some (LO.cells fw54 9)) := by kernel_rfl
noncomputable def fw55 : List Value := [.string ⟨#[83, 67, 70]⟩]
theorem fm55 : ((Ly.run zctx3 6000 [] (Ly.start Tryd.f22 [.int .u8 55] H0)).end?.map fun x => (x.1, x.2.1, x.2.2.next, x.2.2.get 2)) = some ([], .slice (some ⟨2, 0, none⟩) 1 1, 3, some (LO.cells fw55 9)) := by kernel_rfl
theorem fm56 : (Ly.run zctx3 6000 [] (Ly.start Tryd.f22 [.int .u8 56] H0)).out? = some ([], .slice none 0 0) := by kernel_rfl
noncomputable def fw57 : List Value := [.string ⟨#[65, 68, 68]⟩, .string ⟨#[72, 76]⟩, .string ⟨#[83, 80]⟩]
theorem fm57 : ((Ly.run zctx3 6000 [] (Ly.start Tryd.f22 [.int .u8 57] H0)).end?.map fun x => (x.1, x.2.1, x.2.2.next, x.2.2.get 2)) = some ([], .slice (some ⟨2, 0, none⟩) 3 3, 3, some (LO.cells fw57 9)) := by kernel_rfl
noncomputable def fw58 : List Value := [.string ⟨#[76, 68]⟩, .string ⟨#[65]⟩, .string ⟨#[40, 110, 110, 41]⟩]
theorem fm58 : ((Ly.run zctx3 6000 [] (Ly.start Tryd.f22 [.int .u8 58] H0)).end?.map fun x => (x.1, x.2.1, x.2.2.next, x.2.2.get 2)) = some ([], .slice (some ⟨2, 0, none⟩) 3 3, 3, some (LO.cells fw58 9)) := by kernel_rfl
noncomputable def fw59 : List Value := [.string ⟨#[68, 69, 67]⟩, .string ⟨#[83, 80]⟩]
theorem fm59 : ((Ly.run zctx3 6000 [] (Ly.start Tryd.f22 [.int .u8 59] H0)).end?.map fun x => (x.1, x.2.1, x.2.2.next, x.2.2.get 2)) = some ([], .slice (some ⟨2, 0, none⟩) 2 2, 3, some (LO.cells fw59 9)) := by kernel_rfl
noncomputable def fw60 : List Value := [.string ⟨#[73, 78, 67]⟩, .string ⟨#[65]⟩]
theorem fm60 : ((Ly.run zctx3 6000 [] (Ly.start Tryd.f22 [.int .u8 60] H0)).end?.map fun x => (x.1, x.2.1, x.2.2.next, x.2.2.get 2)) = some ([], .slice (some ⟨2, 0, none⟩) 2 2, 3, some (LO.cells fw60 9)) := by kernel_rfl
noncomputable def fw61 : List Value := [.string ⟨#[68, 69, 67]⟩, .string ⟨#[65]⟩]
theorem fm61 : ((Ly.run zctx3 6000 [] (Ly.start Tryd.f22 [.int .u8 61] H0)).end?.map fun x => (x.1, x.2.1, x.2.2.next, x.2.2.get 2)) = some ([], .slice (some ⟨2, 0, none⟩) 2 2, 3, some (LO.cells fw61 9)) := by kernel_rfl
noncomputable def fw62 : List Value := [.string ⟨#[76, 68]⟩, .string ⟨#[65]⟩, .string ⟨#[110]⟩]
theorem fm62 : ((Ly.run zctx3 6000 [] (Ly.start Tryd.f22 [.int .u8 62] H0)).end?.map fun x => (x.1, x.2.1, x.2.2.next, x.2.2.get 2)) = some ([], .slice (some ⟨2, 0, none⟩) 3 3, 3, some (LO.cells fw62 9)) := by kernel_rfl
noncomputable def fw63 : List Value := [.string ⟨#[67, 67, 70]⟩]
theorem fm63 : ((Ly.run zctx3 6000 [] (Ly.start Tryd.f22 [.int .u8 63] H0)).end?.map fun x => (x.1, x.2.1, x.2.2.next, x.2.2.get 2)) = some ([], .slice (some ⟨2, 0, none⟩) 1 1, 3, some (LO.cells fw63 9)) := by kernel_rfl
end Go.Proofs.YtkoeiednpbedlaaDoor
