/- form at bytes 64 to 95. By program (genzt.py). -/
import Derived.Test.YtkoeiednpbedlaaDoorZd
import Derived.KernelRfl
namespace Go.Proofs.YtkoeiednpbedlaaDoor
open Go Go.Ly Go.RowKit
set_option linter.unusedVariables false
set_option linter.unusedSimpArgs false
noncomputable def fw64 : List Value := [.string ⟨#[76, 68]⟩, .string ⟨#[66]⟩, .string ⟨#[66]⟩]
theorem fm64 : ((Ly.run zctx3 6000 [] (Ly.start Tryd.f22 [.int .u8 64] H0)).end?.map fun x => (x.1, x.2.1, x.2.2.next, x.2.2.get 3)) = some ([], .slice (some ⟨3, 0, none⟩) 3 3, 4, some (LO.cells fw64 9)) := by kernel_rfl
noncomputable def fw65 : List Value := [.string ⟨#[76, 68]⟩, .string ⟨#[66]⟩, .string ⟨#[67]⟩]
theorem fm65 : ((Ly.run zctx3 6000 [] (Ly.start Tryd.f22 [.int .u8 65] H0)).end?.map fun x => (x.1, x.2.1, x.2.2.next, x.2.2.get 3)) = some ([], .slice (some ⟨3, 0, none⟩) 3 3, 4, some (LO.cells fw65 9)) := by kernel_rfl
noncomputable def fw66 : List Value := [.string ⟨#[76, 68]⟩, .string ⟨#[66]⟩, .string ⟨#[68]⟩]
theorem fm66 : ((Ly.run zctx3 6000 [] (Ly.start Tryd.f22 [.int .u8 66] H0)).end?.map fun x => (x.1, x.2.1, x.2.2.next, x.2.2.get 3)) = some ([], .slice (some ⟨3, 0, none⟩) 3 3, 4, some (LO.cells fw66 9)) := by kernel_rfl
noncomputable def fw67 : List Value := [.string ⟨#[76, 68]⟩, .string ⟨#[66]⟩, .string ⟨#[69]⟩]
theorem fm67 : ((Ly.run zctx3 6000 [] (Ly.start Tryd.f22 [.int .u8 67] H0)).end?.map fun x => (x.1, x.2.1, x.2.2.next, x.2.2.get 3)) = some ([], .slice (some ⟨3, 0, none⟩) 3 3, 4, some (LO.cells fw67 9)) := by kernel_rfl
noncomputable def fw68 : List Value := [.string ⟨#[76, 68]⟩, .string ⟨#[66]⟩, .string ⟨#[72]⟩]
theorem fm68 : ((Ly.run zctx3 6000 [] (Ly.start Tryd.f22 [.int .u8 68] H0)).end?.map fun x => (x.1, x.2.1, x.2.2.next, x.2.2.get 3)) = some ([], .slice (some ⟨3, 0, none⟩) 3 3, 4, some (LO.cells fw68 9)) := by kernel_rfl
noncomputable def fw69 : List Value := [.string ⟨#[76, 68]⟩, .string ⟨#[66]⟩, .string ⟨#[76]⟩]
theorem fm69 : ((Ly.run zctx3 6000 [] (Ly.start Tryd.f22 [.int .u8 69] H0)).end?.map fun x => (x.1, x.2.1, x.2.2.next, x.2.2.get 3)) = some ([], .slice (some ⟨3, 0, none⟩) 3 3, 4, some (LO.cells fw69 9)) := by kernel_rfl
noncomputable def fw70 : List Value := [.string ⟨#[76, 68]⟩, .string ⟨#[66]⟩, .string ⟨#[40, 72, 76, 41]⟩]
theorem fm70 : ((Ly.run zctx3 6000 [] (Ly.start Tryd.f22 [.int .u8 70] H0)).end?.map fun x => (x.1, x.2.1, x.2.2.next, x.2.2.get 3)) = some ([], .slice (some ⟨3, 0, none⟩) 3 3, 4, some (LO.cells fw70 9)) := by kernel_rfl
noncomputable def fw71 : List Value := [.string ⟨#[76, 68]⟩, .string ⟨#[66]⟩, .string ⟨#[65]⟩]
theorem fm71 : ((Ly.run zctx3 6000 [] (Ly.start Tryd.f22 [.int .u8 71] H0)).end?.map fun x => (x.1, x.2.1, x.2.2.next, x.2.2.get 3)) = some ([], .slice (some ⟨3, 0, none⟩) 3 3, 4, some (LO.cells fw71 9)) := by kernel_rfl
noncomputable def fw72 : List Value := [.string ⟨#[76, 68]⟩, .string ⟨#[67]⟩, .string ⟨#[66]⟩]
theorem fm72 : ((Ly.run zctx3 6000 [] (Ly.start Tryd.f22 [.int .u8 72] H0)).end?.map fun x => (x.1, x.2.1, x.2.2.next, x.2.2.get 3)) = some ([], .slice (some ⟨3, 0, none⟩) 3 3, 4, some (LO.cells fw72 9)) := by kernel_rfl
noncomputable def fw73 : List Value := [.string ⟨#[76, 68]⟩, .string ⟨#[67]⟩, .string ⟨#[67]⟩]
theorem fm73 : ((Ly.run zctx3 6000 [] (Ly.start Tryd.f22 [.int .u8 73] H0)).end?.map fun x => (x.1, x.2.1, x.2.2.next, x.2.2.get 3)) = some ([], .slice (some ⟨3, 0, none⟩) 3 3, 4, some (LO.cells fw73 9)) := by kernel_rfl
noncomputable def fw74 : List Value := [.string ⟨#[76, 68]⟩, .string ⟨#[67]⟩, .string ⟨#[68]⟩]
theorem fm74 : ((Ly.run zctx3 6000 [] (Ly.start Tryd.f22 [.int .u8 74] H0)).end?.map fun x => (x.1, x.2.1, x.2.2.next, x.2.2.get 3)) = some ([], .slice (some ⟨3, 0, none⟩) 3 3, 4, some (LO.cells fw74 9)) := by kernel_rfl
noncomputable def fw75 : List Value := [.string ⟨#[76, 68]⟩, .string ⟨#[67]⟩, .string ⟨#[69]⟩]
theorem fm75 : ((Ly.run zctx3 6000 [] (Ly.start Tryd.f22 [.int .u8 75] H0)).end?.map fun x => (x.1, x.2.1, x.2.2.next, x.2.2.get 3)) = some ([], .slice (some ⟨3, 0, none⟩) 3 3, 4, some (LO.cells fw75 9)) := by kernel_rfl
noncomputable def fw76 : List Value := [.string ⟨#[76, 68]⟩, .string ⟨#[67]⟩, .string ⟨#[72]⟩]
theorem fm76 : ((Ly.run zctx3 6000 [] (Ly.start Tryd.f22 [.int .u8 76] H0)).end?.map fun x => (x.1, x.2.1, x.2.2.next, x.2.2.get 3)) = some ([], .slice (some ⟨3, 0, none⟩) 3 3, 4, some (LO.cells fw76 9)) := by kernel_rfl
noncomputable def fw77 : List Value := [.string ⟨#[76, 68]⟩, .string ⟨#[67]⟩, .string ⟨#[76]⟩]
theorem fm77 : ((Ly.run zctx3 6000 [] (Ly.start Tryd.f22 [.int .u8 77] H0)).end?.map fun x => (x.1, x.2.1, x.2.2.next, x.2.2.get 3)) = some ([], .slice (some ⟨3, 0, none⟩) 3 3, 4, some (LO.cells fw77 9)) := by kernel_rfl
noncomputable def fw78 : List Value := [.string ⟨#[76, 68]⟩, .string ⟨#[67]⟩, .string ⟨#[40, 72, 76, 41]⟩]
theorem fm78 : ((Ly.run zctx3 6000 [] (Ly.start Tryd.f22 [.int .u8 78] H0)).end?.map fun x => (x.1, x.2.1, x.2.2.next, x.2.2.get 3)) = some ([], .slice (some ⟨3, 0, none⟩) 3 3, 4, some (LO.cells fw78 9)) := by kernel_rfl
noncomputable def fw79 : List Value := [.string ⟨#[76, 68]⟩, .string ⟨#[67]⟩, .string ⟨#[65]⟩]
theorem fm79 : ((Ly.run zctx3 6000 [] (Ly.start Tryd.f22 [.int .u8 79] H0)).end?.map fun x => (x.1, x.2.1, x.2.2.next, x.2.2.get 3)) = some ([], .slice (some ⟨3, 0, none⟩) 3 3, 4, some (LO.cells fw79 9)) := by kernel_rfl
noncomputable def fw80 : List Value := [.string ⟨#[76, 68]⟩, .string ⟨#[68]⟩, .string ⟨#[66]⟩]
theorem fm80 : ((Ly.run zctx3 6000 [] (Ly.start Tryd.f22 [.int .u8 80] H0)).end?.map fun x => (x.1, x.2.1, x.2.2.next, x.2.2.get 3)) = some ([], .slice (some ⟨3, 0, none⟩) 3 3, 4, some (LO.cells fw80 9)) := by kernel_rfl
noncomputable def fw81 : List Value := [.string ⟨#[76, 68]⟩, .string ⟨#[68]⟩, .string ⟨#[67]⟩]
theorem fm81 : ((Ly.run zctx3 6000 [] (Ly.start Tryd.f22 [.int .u8 81] H0)).end?.map fun x => (x.1, x.2.1, x.2.2.next, x.2.2.get 3)) = some ([], .slice (some ⟨3, 0, none⟩) 3 3, 4, some (LO.cells fw81 9)) := by kernel_rfl
noncomputable def fw82 : List Value := [.string ⟨#[76, 68]⟩, .string ⟨#[68]⟩, .string ⟨#[68]⟩]
theorem fm82 : ((Ly.run zctx3 6000 [] (Ly.start Tryd.f22 [.int .u8 82] H0)).end?.map fun x => (x.1, x.2.1, x.2.2.next, x.2.2.get 3)) = some ([], .slice (some ⟨3, 0, none⟩) 3 3, 4, some (LO.cells fw82 9)) := by kernel_rfl
noncomputable def fw83 : List Value := [.string ⟨#[76, 68]⟩, .string ⟨#[68]⟩, .string ⟨#[69]⟩]
theorem fm83 : ((Ly.run zctx3 6000 [] (Ly.start Tryd.f22 [.int .u8 83] H0)).end?.map fun x => (x.1, x.2.1, x.2.2.next, x.2.2.get 3)) = some ([], .slice (some ⟨3, 0, none⟩) 3 3, 4, some (LO.cells fw83 9)) := by kernel_rfl
noncomputable def fw84 : List Value := [.string ⟨#[76, 68]⟩, .string ⟨#[68]⟩, .string ⟨#[72]⟩]
theorem fm84 : ((Ly.run zctx3 6000 [] (Ly.start Tryd.f22 [.int .u8 84] H0)).end?.map fun x => (x.1, x.2.1, x.2.2.next, x.2.2.get 3)) = some ([], .slice (some ⟨3, 0, none⟩) 3 3, 4, some (LO.cells fw84 9)) := by kernel_rfl
noncomputable def fw85 : List Value := [.string ⟨#[76, 68]⟩, .string ⟨#[68]⟩, .string ⟨#[76]⟩]
theorem fm85 : ((Ly.run zctx3 6000 [] (Ly.start Tryd.f22 [.int .u8 85] H0)).end?.map fun x => (x.1, x.2.1, x.2.2.next, x.2.2.get 3)) = some ([], .slice (some ⟨3, 0, none⟩) 3 3, 4, some (LO.cells fw85 9)) := by kernel_rfl
noncomputable def fw86 : List Value := [.string ⟨#[76, 68]⟩, .string ⟨#[68]⟩, .string ⟨#[40, 72, 76, 41]⟩]
theorem fm86 : ((Ly.run zctx3 6000 [] (Ly.start Tryd.f22 [.int .u8 86] H0)).end?.map fun x => (x.1, x.2.1, x.2.2.next, x.2.2.get 3)) = some ([], .slice (some ⟨3, 0, none⟩) 3 3, 4, some (LO.cells fw86 9)) := by kernel_rfl
noncomputable def fw87 : List Value := [.string ⟨#[76, 68]⟩, .string ⟨#[68]⟩, .string ⟨#[65]⟩]
theorem fm87 : ((Ly.run zctx3 6000 [] (Ly.start Tryd.f22 [.int .u8 87] H0)).end?.map fun x => (x.1, x.2.1, x.2.2.next, x.2.2.get 3)) = some ([], .slice (some ⟨3, 0, none⟩) 3 3, 4, some (LO.cells fw87 9)) := by kernel_rfl
noncomputable def fw88 : List Value := [.string ⟨#[76, 68]⟩, .string ⟨#[69]⟩, .string ⟨#[66]⟩]
theorem fm88 : ((Ly.run zctx3 6000 [] (Ly.start Tryd.f22 [.int .u8 88] H0)).end?.map fun x => (x.1, x.2.1, x.2.2.next, x.2.2.get 3)) = some ([], .slice (some ⟨3, 0, none⟩) 3 3, 4, some (LO.cells fw88 9)) := by kernel_rfl
noncomputable def fw89 : List Value := [.string ⟨#[76, 68]⟩, .string ⟨#[69]⟩, .string ⟨#[67]⟩]
theorem fm89 : ((Ly.run zctx3 6000 [] (Ly.start Tryd.f22 [.int .u8 89] H0)).end?.map fun x => (x.1, x.2.1, x.2.2.next, x.2.2.get 3)) = some ([], .slice (some ⟨3, 0, none⟩) 3 3, 4, some (LO.cells fw89 9)) := by kernel_rfl
noncomputable def fw90 : List Value := [.string ⟨#[76, 68]⟩, .string ⟨#[69]⟩, .string ⟨#[68]⟩]
theorem fm90 : ((Ly.run zctx3 6000 [] (Ly.start Tryd.f22 [.int .u8 90] H0)).end?.map fun x => (x.1, x.2.1, x.2.2.next, x.2.2.get 3)) = some ([], .slice (some ⟨3, 0, none⟩) 3 3, 4, some (LO.cells fw90 9)) := by kernel_rfl
noncomputable def fw91 : List Value := [.string ⟨#[76, 68]⟩, .string ⟨#[69]⟩, .string ⟨#[69]⟩]
theorem fm91 : ((Ly.run zctx3 6000 [] (Ly.start Tryd.f22 [.int .u8 91] H0)).end?.map fun x => (x.1, x.2.1, x.2.2.next, x.2.2.get 3)) = some ([], .slice (some ⟨3, 0, none⟩) 3 3, 4, some (LO.cells fw91 9)) := by kernel_rfl
noncomputable def fw92 : List Value := [.string ⟨#[76, 68]⟩, .string ⟨#[69]⟩, .string ⟨#[72]⟩]
theorem fm92 : ((Ly.run zctx3 6000 [] (Ly.start Tryd.f22 [.int .u8 92] H0)).end?.map fun x => (x.1, x.2.1, x.2.2.next, x.2.2.get 3)) = some ([], .slice (some ⟨3, 0, none⟩) 3 3, 4, some (LO.cells fw92 9)) := by kernel_rfl
noncomputable def fw93 : List Value := [.string ⟨#[76, 68]⟩, .string ⟨#[69]⟩, .string ⟨#[76]⟩]
theorem fm93 : ((Ly.run zctx3 6000 [] (Ly.start Tryd.f22 [.int .u8 93] H0)).end?.map fun x => (x.1, x.2.1, x.2.2.next, x.2.2.get 3)) = some ([], .slice (some ⟨3, 0, none⟩) 3 3, 4, some (LO.cells fw93 9)) := by kernel_rfl
noncomputable def fw94 : List Value := [.string ⟨#[76, 68]⟩, .string ⟨#[69]⟩, .string ⟨#[40, 72, 76, 41]⟩]
theorem fm94 : ((Ly.run zctx3 6000 [] (Ly.start Tryd.f22 [.int .u8 94] H0)).end?.map fun x => (x.1, x.2.1, x.2.2.next, x.2.2.get 3)) = some ([], .slice (some ⟨3, 0, none⟩) 3 3, 4, some (LO.cells fw94 9)) := by kernel_rfl
noncomputable def fw95 : List Value := [.string ⟨#[76, 68]⟩, .string ⟨#[69]⟩, .string ⟨#[65]⟩]
theorem fm95 : ((Ly.run zctx3 6000 [] (Ly.start Tryd.f22 [.int .u8 95] H0)).end?.map fun x => (x.1, x.2.1, x.2.2.next, x.2.2.get 3)) = some ([], .slice (some ⟨3, 0, none⟩) 3 3, 4, some (LO.cells fw95 9)) := by kernel_rfl
end Go.Proofs.YtkoeiednpbedlaaDoor
