/- form at bytes 96 to 127. By program (genzt.py). -/
import Derived.Test.YtkoeiednpbedlaaDoorZd
import Derived.KernelRfl
namespace Go.Proofs.YtkoeiednpbedlaaDoor
open Go Go.Ly Go.RowKit
set_option linter.unusedVariables false
set_option linter.unusedSimpArgs false
noncomputable def fw96 : List Value := [.string ⟨#[76, 68]⟩, .string ⟨#[72]⟩, .string ⟨#[66]⟩]
theorem fm96 : ((Ly.run zctx3 6000 [] (Ly.start Tryd.f22 [.int .u8 96] H0)).end?.map fun x => (x.1, x.2.1, x.2.2.next, x.2.2.get 3)) = some ([], .slice (some ⟨3, 0, none⟩) 3 3, 4, some (LO.cells fw96 9)) := by kernel_rfl
noncomputable def fw97 : List Value := [.string ⟨#[76, 68]⟩, .string ⟨#[72]⟩, .string ⟨#[67]⟩]
theorem fm97 : ((Ly.run zctx3 6000 [] (Ly.start Tryd.f22 [.int .u8 97] H0)).end?.map fun x => (x.1, x.2.1, x.2.2.next, x.2.2.get 3)) = some ([], .slice (some ⟨3, 0, none⟩) 3 3, 4, some (LO.cells fw97 9)) := by kernel_rfl
noncomputable def fw98 : List Value := [.string ⟨#[76, 68]⟩, .string ⟨#[72]⟩, .string ⟨#[68]⟩]
theorem fm98 : ((Ly.run zctx3 6000 [] (Ly.start Tryd.f22 [.int .u8 98] H0)).end?.map fun x => (x.1, x.2.1, x.2.2.next, x.2.2.get 3)) = some ([], .slice (some ⟨3, 0, none⟩) 3 3, 4, some (LO.cells fw98 9)) := by kernel_rfl
noncomputable def fw99 : List Value := [.string ⟨#[76, 68]⟩, .string ⟨#[72]⟩, .string ⟨#[69]⟩]
theorem fm99 : ((Ly.run zctx3 6000 [] (Ly.start Tryd.f22 [.int .u8 99] H0)).end?.map fun x => (x.1, x.2.1, x.2.2.next, x.2.2.get 3)) = some ([], .slice (some ⟨3, 0, none⟩) 3 3, 4, some (LO.cells fw99 9)) := by kernel_rfl
noncomputable def fw100 : List Value := [.string ⟨#[76, 68]⟩, .string ⟨#[72]⟩, .string ⟨#[72]⟩]
theorem fm100 : ((Ly.run zctx3 6000 [] (Ly.start Tryd.f22 [.int .u8 100] H0)).end?.map fun x => (x.1, x.2.1, x.2.2.next, x.2.2.get 3)) = some ([], .slice (some ⟨3, 0, none⟩) 3 3, 4, some (LO.cells fw100 9)) := by kernel_rfl
noncomputable def fw101 : List Value := [.string ⟨#[76, 68]⟩, .string ⟨#[72]⟩, .string ⟨#[76]⟩]
theorem fm101 : ((Ly.run zctx3 6000 [] (Ly.start Tryd.f22 [.int .u8 101] H0)).end?.map fun x => (x.1, x.2.1, x.2.2.next, x.2.2.get 3)) = some ([], .slice (some ⟨3, 0, none⟩) 3 3, 4, some (LO.cells fw101 9)) := by kernel_rfl
noncomputable def fw102 : List Value := [.string ⟨#[76, 68]⟩, .string ⟨#[72]⟩, .string ⟨#[40, 72, 76, 41]⟩]
theorem fm102 : ((Ly.run zctx3 6000 [] (Ly.start Tryd.f22 [.int .u8 102] H0)).end?.map fun x => (x.1, x.2.1, x.2.2.next, x.2.2.get 3)) = some ([], .slice (some ⟨3, 0, none⟩) 3 3, 4, some (LO.cells fw102 9)) := by kernel_rfl
noncomputable def fw103 : List Value := [.string ⟨#[76, 68]⟩, .string ⟨#[72]⟩, .string ⟨#[65]⟩]
theorem fm103 : ((Ly.run zctx3 6000 [] (Ly.start Tryd.f22 [.int .u8 103] H0)).end?.map fun x => (x.1, x.2.1, x.2.2.next, x.2.2.get 3)) = some ([], .slice (some ⟨3, 0, none⟩) 3 3, 4, some (LO.cells fw103 9)) := by kernel_rfl
noncomputable def fw104 : List Value := [.string ⟨#[76, 68]⟩, .string ⟨#[76]⟩, .string ⟨#[66]⟩]
theorem fm104 : ((Ly.run zctx3 6000 [] (Ly.start Tryd.f22 [.int .u8 104] H0)).end?.map fun x => (x.1, x.2.1, x.2.2.next, x.2.2.get 3)) = some ([], .slice (some ⟨3, 0, none⟩) 3 3, 4, some (LO.cells fw104 9)) := by kernel_rfl
noncomputable def fw105 : List Value := [.string ⟨#[76, 68]⟩, .string ⟨#[76]⟩, .string ⟨#[67]⟩]
theorem fm105 : ((Ly.run zctx3 6000 [] (Ly.start Tryd.f22 [.int .u8 105] H0)).end?.map fun x => (x.1, x.2.1, x.2.2.next, x.2.2.get 3)) = some ([], .slice (some ⟨3, 0, none⟩) 3 3, 4, some (LO.cells fw105 9)) := by kernel_rfl
noncomputable def fw106 : List Value := [.string ⟨#[76, 68]⟩, .string ⟨#[76]⟩, .string ⟨#[68]⟩]
theorem fm106 : ((Ly.run zctx3 6000 [] (Ly.start Tryd.f22 [.int .u8 106] H0)).end?.map fun x => (x.1, x.2.1, x.2.2.next, x.2.2.get 3)) = some ([], .slice (some ⟨3, 0, none⟩) 3 3, 4, some (LO.cells fw106 9)) := by kernel_rfl
noncomputable def fw107 : List Value := [.string ⟨#[76, 68]⟩, .string ⟨#[76]⟩, .string ⟨#[69]⟩]
theorem fm107 : ((Ly.run zctx3 6000 [] (Ly.start Tryd.f22 [.int .u8 107] H0)).end?.map fun x => (x.1, x.2.1, x.2.2.next, x.2.2.get 3)) = some ([], .slice (some ⟨3, 0, none⟩) 3 3, 4, some (LO.cells fw107 9)) := by kernel_rfl
noncomputable def fw108 : List Value := [.string ⟨#[76, 68]⟩, .string ⟨#[76]⟩, .string ⟨#[72]⟩]
theorem fm108 : ((Ly.run zctx3 6000 [] (Ly.start Tryd.f22 [.int .u8 108] H0)).end?.map fun x => (x.1, x.2.1, x.2.2.next, x.2.2.get 3)) = some ([], .slice (some ⟨3, 0, none⟩) 3 3, 4, some (LO.cells fw108 9)) := by kernel_rfl
noncomputable def fw109 : List Value := [.string ⟨#[76, 68]⟩, .string ⟨#[76]⟩, .string ⟨#[76]⟩]
theorem fm109 : ((Ly.run zctx3 6000 [] (Ly.start Tryd.f22 [.int .u8 109] H0)).end?.map fun x => (x.1, x.2.1, x.2.2.next, x.2.2.get 3)) = some ([], .slice (some ⟨3, 0, none⟩) 3 3, 4, some (LO.cells fw109 9)) := by kernel_rfl
noncomputable def fw110 : List Value := [.string ⟨#[76, 68]⟩, .string ⟨#[76]⟩, .string ⟨#[40, 72, 76, 41]⟩]
theorem fm110 : ((Ly.run zctx3 6000 [] (Ly.start Tryd.f22 [.int .u8 110] H0)).end?.map fun x => (x.1, x.2.1, x.2.2.next, x.2.2.get 3)) = some ([], .slice (some ⟨3, 0, none⟩) 3 3, 4, some (LO.cells fw110 9)) := by kernel_rfl
noncomputable def fw111 : List Value := [.string ⟨#[76, 68]⟩, .string ⟨#[76]⟩, .string ⟨#[65]⟩]
theorem fm111 : ((Ly.run zctx3 6000 [] (Ly.start Tryd.f22 [.int .u8 111] H0)).end?.map fun x => (x.1, x.2.1, x.2.2.next, x.2.2.get 3)) = some ([], .slice (some ⟨3, 0, none⟩) 3 3, 4, some (LO.cells fw111 9)) := by kernel_rfl
noncomputable def fw112 : List Value := [.string ⟨#[76, 68]⟩, .string ⟨#[40, 72, 76, 41]⟩, .string ⟨#[66]⟩]
theorem fm112 : ((Ly.run zctx3 6000 [] (Ly.start Tryd.f22 [.int .u8 112] H0)).end?.map fun x => (x.1, x.2.1, x.2.2.next, x.2.2.get 3)) = some ([], .slice (some ⟨3, 0, none⟩) 3 3, 4, some (LO.cells fw112 9)) := by kernel_rfl
noncomputable def fw113 : List Value := [.string ⟨#[76, 68]⟩, .string ⟨#[40, 72, 76, 41]⟩, .string ⟨#[67]⟩]
theorem fm113 : ((Ly.run zctx3 6000 [] (Ly.start Tryd.f22 [.int .u8 113] H0)).end?.map fun x => (x.1, x.2.1, x.2.2.next, x.2.2.get 3)) = some ([], .slice (some ⟨3, 0, none⟩) 3 3, 4, some (LO.cells fw113 9)) := by kernel_rfl
noncomputable def fw114 : List Value := [.string ⟨#[76, 68]⟩, .string ⟨#[40, 72, 76, 41]⟩, .string ⟨#[68]⟩]
theorem fm114 : ((Ly.run zctx3 6000 [] (Ly.start Tryd.f22 [.int .u8 114] H0)).end?.map fun x => (x.1, x.2.1, x.2.2.next, x.2.2.get 3)) = some ([], .slice (some ⟨3, 0, none⟩) 3 3, 4, some (LO.cells fw114 9)) := by kernel_rfl
noncomputable def fw115 : List Value := [.string ⟨#[76, 68]⟩, .string ⟨#[40, 72, 76, 41]⟩, .string ⟨#[69]⟩]
theorem fm115 : ((Ly.run zctx3 6000 [] (Ly.start Tryd.f22 [.int .u8 115] H0)).end?.map fun x => (x.1, x.2.1, x.2.2.next, x.2.2.get 3)) = some ([], .slice (some ⟨3, 0, none⟩) 3 3, 4, some (LO.cells fw115 9)) := by kernel_rfl
noncomputable def fw116 : List Value := [.string ⟨#[76, 68]⟩, .string ⟨#[40, 72, 76, 41]⟩, .string ⟨#[72]⟩]
theorem fm116 : ((Ly.run zctx3 6000 [] (Ly.start Tryd.f22 [.int .u8 116] H0)).end?.map fun x => (x.1, x.2.1, x.2.2.next, x.2.2.get 3)) = some ([], .slice (some ⟨3, 0, none⟩) 3 3, 4, some (LO.cells fw116 9)) := by kernel_rfl
noncomputable def fw117 : List Value := [.string ⟨#[76, 68]⟩, .string ⟨#[40, 72, 76, 41]⟩, .string ⟨#[76]⟩]
theorem fm117 : ((Ly.run zctx3 6000 [] (Ly.start Tryd.f22 [.int .u8 117] H0)).end?.map fun x => (x.1, x.2.1, x.2.2.next, x.2.2.get 3)) = some ([], .slice (some ⟨3, 0, none⟩) 3 3, 4, some (LO.cells fw117 9)) := by kernel_rfl
noncomputable def fw118 : List Value := [.string ⟨#[72, 65, 76, 84]⟩]
theorem fm118 : ((Ly.run zctx3 6000 [] (Ly.start Tryd.f22 [.int .u8 118] H0)).end?.map fun x => (x.1, x.2.1, x.2.2.next, x.2.2.get 1)) = some ([], .slice (some ⟨1, 0, none⟩) 1 1, 2, some (LO.cells fw118 9)) := by kernel_rfl
noncomputable def fw119 : List Value := [.string ⟨#[76, 68]⟩, .string ⟨#[40, 72, 76, 41]⟩, .string ⟨#[65]⟩]
theorem fm119 : ((Ly.run zctx3 6000 [] (Ly.start Tryd.f22 [.int .u8 119] H0)).end?.map fun x => (x.1, x.2.1, x.2.2.next, x.2.2.get 3)) = some ([], .slice (some ⟨3, 0, none⟩) 3 3, 4, some (LO.cells fw119 9)) := by kernel_rfl
noncomputable def fw120 : List Value := [.string ⟨#[76, 68]⟩, .string ⟨#[65]⟩, .string ⟨#[66]⟩]
theorem fm120 : ((Ly.run zctx3 6000 [] (Ly.start Tryd.f22 [.int .u8 120] H0)).end?.map fun x => (x.1, x.2.1, x.2.2.next, x.2.2.get 3)) = some ([], .slice (some ⟨3, 0, none⟩) 3 3, 4, some (LO.cells fw120 9)) := by kernel_rfl
noncomputable def fw121 : List Value := [.string ⟨#[76, 68]⟩, .string ⟨#[65]⟩, .string ⟨#[67]⟩]
theorem fm121 : ((Ly.run zctx3 6000 [] (Ly.start Tryd.f22 [.int .u8 121] H0)).end?.map fun x => (x.1, x.2.1, x.2.2.next, x.2.2.get 3)) = some ([], .slice (some ⟨3, 0, none⟩) 3 3, 4, some (LO.cells fw121 9)) := by kernel_rfl
noncomputable def fw122 : List Value := [.string ⟨#[76, 68]⟩, .string ⟨#[65]⟩, .string ⟨#[68]⟩]
theorem fm122 : ((Ly.run zctx3 6000 [] (Ly.start Tryd.f22 [.int .u8 122] H0)).end?.map fun x => (x.1, x.2.1, x.2.2.next, x.2.2.get 3)) = some ([], .slice (some ⟨3, 0, none⟩) 3 3, 4, some (LO.cells fw122 9)) := by kernel_rfl
noncomputable def fw123 : List Value := [.string ⟨#[76, 68]⟩, .string ⟨#[65]⟩, .string ⟨#[69]⟩]
theorem fm123 : ((Ly.run zctx3 6000 [] (Ly.start Tryd.f22 [.int .u8 123] H0)).end?.map fun x => (x.1, x.2.1, x.2.2.next, x.2.2.get 3)) = some ([], .slice (some ⟨3, 0, none⟩) 3 3, 4, some (LO.cells fw123 9)) := by kernel_rfl
noncomputable def fw124 : List Value := [.string ⟨#[76, 68]⟩, .string ⟨#[65]⟩, .string ⟨#[72]⟩]
theorem fm124 : ((Ly.run zctx3 6000 [] (Ly.start Tryd.f22 [.int .u8 124] H0)).end?.map fun x => (x.1, x.2.1, x.2.2.next, x.2.2.get 3)) = some ([], .slice (some ⟨3, 0, none⟩) 3 3, 4, some (LO.cells fw124 9)) := by kernel_rfl
noncomputable def fw125 : List Value := [.string ⟨#[76, 68]⟩, .string ⟨#[65]⟩, .string ⟨#[76]⟩]
theorem fm125 : ((Ly.run zctx3 6000 [] (Ly.start Tryd.f22 [.int .u8 125] H0)).end?.map fun x => (x.1, x.2.1, x.2.2.next, x.2.2.get 3)) = some ([], .slice (some ⟨3, 0, none⟩) 3 3, 4, some (LO.cells fw125 9)) := by kernel_rfl
noncomputable def fw126 : List Value := [.string ⟨#[76, 68]⟩, .string ⟨#[65]⟩, .string ⟨#[40, 72, 76, 41]⟩]
theorem fm126 : ((Ly.run zctx3 6000 [] (Ly.start Tryd.f22 [.int .u8 126] H0)).end?.map fun x => (x.1, x.2.1, x.2.2.next, x.2.2.get 3)) = some ([], .slice (some ⟨3, 0, none⟩) 3 3, 4, some (LO.cells fw126 9)) := by kernel_rfl
noncomputable def fw127 : List Value := [.string ⟨#[76, 68]⟩, .string ⟨#[65]⟩, .string ⟨#[65]⟩]
theorem fm127 : ((Ly.run zctx3 6000 [] (Ly.start Tryd.f22 [.int .u8 127] H0)).end?.map fun x => (x.1, x.2.1, x.2.2.next, x.2.2.get 3)) = some ([], .slice (some ⟨3, 0, none⟩) 3 3, 4, some (LO.cells fw127 9)) := by kernel_rfl
end Go.Proofs.YtkoeiednpbedlaaDoor
