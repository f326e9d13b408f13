/- form at bytes 128 to 159. By program (genzt.py). -/
import Derived.Test.YtkoeiednpbedlaaDoorZd
import Derived.KernelRfl
namespace Go.Proofs.YtkoeiednpbedlaaDoor
open Go Go.Ly Go.RowKit
set_option linter.unusedVariables false
set_option linter.unusedSimpArgs false
noncomputable def fw128 : List Value := [.string ⟨#[65, 68, 68]⟩, .string ⟨#[65]⟩, .string ⟨#[66]⟩]
theorem fm128 : ((Ly.run zctx3 6000 [] (Ly.start Tryd.f22 [.int .u8 128] H0)).end?.map fun x => (x.1, x.2.1, x.2.2.next, x.2.2.get 3)) = some ([], .slice (some ⟨3, 0, none⟩) 3 3, 4, some (LO.cells fw128 9)) := by kernel_rfl
noncomputable def fw129 : List Value := [.string ⟨#[65, 68, 68]⟩, .string ⟨#[65]⟩, .string ⟨#[67]⟩]
theorem fm129 : ((Ly.run zctx3 6000 [] (Ly.start Tryd.f22 [.int .u8 129] H0)).end?.map fun x => (x.1, x.2.1, x.2.2.next, x.2.2.get 3)) = some ([], .slice (some ⟨3, 0, none⟩) 3 3, 4, some (LO.cells fw129 9)) := by kernel_rfl
noncomputable def fw130 : List Value := [.string ⟨#[65, 68, 68]⟩, .string ⟨#[65]⟩, .string ⟨#[68]⟩]
theorem fm130 : ((Ly.run zctx3 6000 [] (Ly.start Tryd.f22 [.int .u8 130] H0)).end?.map fun x => (x.1, x.2.1, x.2.2.next, x.2.2.get 3)) = some ([], .slice (some ⟨3, 0, none⟩) 3 3, 4, some (LO.cells fw130 9)) := by kernel_rfl
noncomputable def fw131 : List Value := [.string ⟨#[65, 68, 68]⟩, .string ⟨#[65]⟩, .string ⟨#[69]⟩]
theorem fm131 : ((Ly.run zctx3 6000 [] (Ly.start Tryd.f22 [.int .u8 131] H0)).end?.map fun x => (x.1, x.2.1, x.2.2.next, x.2.2.get 3)) = some ([], .slice (some ⟨3, 0, none⟩) 3 3, 4, some (LO.cells fw131 9)) := by kernel_rfl
noncomputable def fw132 : List Value := [.string ⟨#[65, 68, 68]⟩, .string ⟨#[65]⟩, .string ⟨#[72]⟩]
theorem fm132 : ((Ly.run zctx3 6000 [] (Ly.start Tryd.f22 [.int .u8 132] H0)).end?.map fun x => (x.1, x.2.1, x.2.2.next, x.2.2.get 3)) = some ([], .slice (some ⟨3, 0, none⟩) 3 3, 4, some (LO.cells fw132 9)) := by kernel_rfl
noncomputable def fw133 : List Value := [.string ⟨#[65, 68, 68]⟩, .string ⟨#[65]⟩, .string ⟨#[76]⟩]
theorem fm133 : ((Ly.run zctx3 6000 [] (Ly.start Tryd.f22 [.int .u8 133] H0)).end?.map fun x => (x.1, x.2.1, x.2.2.next, x.2.2.get 3)) = some ([], .slice (some ⟨3, 0, none⟩) 3 3, 4, some (LO.cells fw133 9)) := by kernel_rfl
noncomputable def fw134 : List Value := [.string ⟨#[65, 68, 68]⟩, .string ⟨#[65]⟩, .string ⟨#[40, 72, 76, 41]⟩]
theorem fm134 : ((Ly.run zctx3 6000 [] (Ly.start Tryd.f22 [.int .u8 134] H0)).end?.map fun x => (x.1, x.2.1, x.2.2.next, x.2.2.get 3)) = some ([], .slice (some ⟨3, 0, none⟩) 3 3, 4, some (LO.cells fw134 9)) := by kernel_rfl
noncomputable def fw135 : List Value := [.string ⟨#[65, 68, 68]⟩, .string ⟨#[65]⟩, .string ⟨#[65]⟩]
theorem fm135 : ((Ly.run zctx3 6000 [] (Ly.start Tryd.f22 [.int .u8 135] H0)).end?.map fun x => (x.1, x.2.1, x.2.2.next, x.2.2.get 3)) = some ([], .slice (some ⟨3, 0, none⟩) 3 3, 4, some (LO.cells fw135 9)) := by kernel_rfl
noncomputable def fw136 : List Value := [.string ⟨#[65, 68, 67]⟩, .string ⟨#[65]⟩, .string ⟨#[66]⟩]
theorem fm136 : ((Ly.run zctx3 6000 [] (Ly.start Tryd.f22 [.int .u8 136] H0)).end?.map fun x => (x.1, x.2.1, x.2.2.next, x.2.2.get 3)) = some ([], .slice (some ⟨3, 0, none⟩) 3 3, 4, some (LO.cells fw136 9)) := by kernel_rfl
noncomputable def fw137 : List Value := [.string ⟨#[65, 68, 67]⟩, .string ⟨#[65]⟩, .string ⟨#[67]⟩]
theorem fm137 : ((Ly.run zctx3 6000 [] (Ly.start Tryd.f22 [.int .u8 137] H0)).end?.map fun x => (x.1, x.2.1, x.2.2.next, x.2.2.get 3)) = some ([], .slice (some ⟨3, 0, none⟩) 3 3, 4, some (LO.cells fw137 9)) := by kernel_rfl
noncomputable def fw138 : List Value := [.string ⟨#[65, 68, 67]⟩, .string ⟨#[65]⟩, .string ⟨#[68]⟩]
theorem fm138 : ((Ly.run zctx3 6000 [] (Ly.start Tryd.f22 [.int .u8 138] H0)).end?.map fun x => (x.1, x.2.1, x.2.2.next, x.2.2.get 3)) = some ([], .slice (some ⟨3, 0, none⟩) 3 3, 4, some (LO.cells fw138 9)) := by kernel_rfl
noncomputable def fw139 : List Value := [.string ⟨#[65, 68, 67]⟩, .string ⟨#[65]⟩, .string ⟨#[69]⟩]
theorem fm139 : ((Ly.run zctx3 6000 [] (Ly.start Tryd.f22 [.int .u8 139] H0)).end?.map fun x => (x.1, x.2.1, x.2.2.next, x.2.2.get 3)) = some ([], .slice (some ⟨3, 0, none⟩) 3 3, 4, some (LO.cells fw139 9)) := by kernel_rfl
noncomputable def fw140 : List Value := [.string ⟨#[65, 68, 67]⟩, .string ⟨#[65]⟩, .string ⟨#[72]⟩]
theorem fm140 : ((Ly.run zctx3 6000 [] (Ly.start Tryd.f22 [.int .u8 140] H0)).end?.map fun x => (x.1, x.2.1, x.2.2.next, x.2.2.get 3)) = some ([], .slice (some ⟨3, 0, none⟩) 3 3, 4, some (LO.cells fw140 9)) := by kernel_rfl
noncomputable def fw141 : List Value := [.string ⟨#[65, 68, 67]⟩, .string ⟨#[65]⟩, .string ⟨#[76]⟩]
theorem fm141 : ((Ly.run zctx3 6000 [] (Ly.start Tryd.f22 [.int .u8 141] H0)).end?.map fun x => (x.1, x.2.1, x.2.2.next, x.2.2.get 3)) = some ([], .slice (some ⟨3, 0, none⟩) 3 3, 4, some (LO.cells fw141 9)) := by kernel_rfl
noncomputable def fw142 : List Value := [.string ⟨#[65, 68, 67]⟩, .string ⟨#[65]⟩, .string ⟨#[40, 72, 76, 41]⟩]
theorem fm142 : ((Ly.run zctx3 6000 [] (Ly.start Tryd.f22 [.int .u8 142] H0)).end?.map fun x => (x.1, x.2.1, x.2.2.next, x.2.2.get 3)) = some ([], .slice (some ⟨3, 0, none⟩) 3 3, 4, some (LO.cells fw142 9)) := by kernel_rfl
noncomputable def fw143 : List Value := [.string ⟨#[65, 68, 67]⟩, .string ⟨#[65]⟩, .string ⟨#[65]⟩]
theorem fm143 : ((Ly.run zctx3 6000 [] (Ly.start Tryd.f22 [.int .u8 143] H0)).end?.map fun x => (x.1, x.2.1, x.2.2.next, x.2.2.get 3)) = some ([], .slice (some ⟨3, 0, none⟩) 3 3, 4, some (LO.cells fw143 9)) := by kernel_rfl
noncomputable def fw144 : List Value := [.string ⟨#[83, 85, 66]⟩, .string ⟨#[66]⟩]
theorem fm144 : ((Ly.run zctx3 6000 [] (Ly.start Tryd.f22 [.int .u8 144] H0)).end?.map fun x => (x.1, x.2.1, x.2.2.next, x.2.2.get 3)) = some ([], .slice (some ⟨3, 0, none⟩) 2 2, 4, some (LO.cells fw144 9)) := by kernel_rfl
noncomputable def fw145 : List Value := [.string ⟨#[83, 85, 66]⟩, .string ⟨#[67]⟩]
theorem fm145 : ((Ly.run zctx3 6000 [] (Ly.start Tryd.f22 [.int .u8 145] H0)).end?.map fun x => (x.1, x.2.1, x.2.2.next, x.2.2.get 3)) = some ([], .slice (some ⟨3, 0, none⟩) 2 2, 4, some (LO.cells fw145 9)) := by kernel_rfl
noncomputable def fw146 : List Value := [.string ⟨#[83, 85, 66]⟩, .string ⟨#[68]⟩]
theorem fm146 : ((Ly.run zctx3 6000 [] (Ly.start Tryd.f22 [.int .u8 146] H0)).end?.map fun x => (x.1, x.2.1, x.2.2.next, x.2.2.get 3)) = some ([], .slice (some ⟨3, 0, none⟩) 2 2, 4, some (LO.cells fw146 9)) := by kernel_rfl
noncomputable def fw147 : List Value := [.string ⟨#[83, 85, 66]⟩, .string ⟨#[69]⟩]
theorem fm147 : ((Ly.run zctx3 6000 [] (Ly.start Tryd.f22 [.int .u8 147] H0)).end?.map fun x => (x.1, x.2.1, x.2.2.next, x.2.2.get 3)) = some ([], .slice (some ⟨3, 0, none⟩) 2 2, 4, some (LO.cells fw147 9)) := by kernel_rfl
noncomputable def fw148 : List Value := [.string ⟨#[83, 85, 66]⟩, .string ⟨#[72]⟩]
theorem fm148 : ((Ly.run zctx3 6000 [] (Ly.start Tryd.f22 [.int .u8 148] H0)).end?.map fun x => (x.1, x.2.1, x.2.2.next, x.2.2.get 3)) = some ([], .slice (some ⟨3, 0, none⟩) 2 2, 4, some (LO.cells fw148 9)) := by kernel_rfl
noncomputable def fw149 : List Value := [.string ⟨#[83, 85, 66]⟩, .string ⟨#[76]⟩]
theorem fm149 : ((Ly.run zctx3 6000 [] (Ly.start Tryd.f22 [.int .u8 149] H0)).end?.map fun x => (x.1, x.2.1, x.2.2.next, x.2.2.get 3)) = some ([], .slice (some ⟨3, 0, none⟩) 2 2, 4, some (LO.cells fw149 9)) := by kernel_rfl
noncomputable def fw150 : List Value := [.string ⟨#[83, 85, 66]⟩, .string ⟨#[40, 72, 76, 41]⟩]
theorem fm150 : ((Ly.run zctx3 6000 [] (Ly.start Tryd.f22 [.int .u8 150] H0)).end?.map fun x => (x.1, x.2.1, x.2.2.next, x.2.2.get 3)) = some ([], .slice (some ⟨3, 0, none⟩) 2 2, 4, some (LO.cells fw150 9)) := by kernel_rfl
noncomputable def fw151 : List Value := [.string ⟨#[83, 85, 66]⟩, .string ⟨#[65]⟩]
theorem fm151 : ((Ly.run zctx3 6000 [] (Ly.start Tryd.f22 [.int .u8 151] H0)).end?.map fun x => (x.1, x.2.1, x.2.2.next, x.2.2.get 3)) = some ([], .slice (some ⟨3, 0, none⟩) 2 2, 4, some (LO.cells fw151 9)) := by kernel_rfl
noncomputable def fw152 : List Value := [.string ⟨#[83, 66, 67]⟩, .string ⟨#[65]⟩, .string ⟨#[66]⟩]
theorem fm152 : ((Ly.run zctx3 6000 [] (Ly.start Tryd.f22 [.int .u8 152] H0)).end?.map fun x => (x.1, x.2.1, x.2.2.next, x.2.2.get 3)) = some ([], .slice (some ⟨3, 0, none⟩) 3 3, 4, some (LO.cells fw152 9)) := by kernel_rfl
noncomputable def fw153 : List Value := [.string ⟨#[83, 66, 67]⟩, .string ⟨#[65]⟩, .string ⟨#[67]⟩]
theorem fm153 : ((Ly.run zctx3 6000 [] (Ly.start Tryd.f22 [.int .u8 153] H0)).end?.map fun x => (x.1, x.2.1, x.2.2.next, x.2.2.get 3)) = some ([], .slice (some ⟨3, 0, none⟩) 3 3, 4, some (LO.cells fw153 9)) := by kernel_rfl
noncomputable def fw154 : List Value := [.string ⟨#[83, 66, 67]⟩, .string ⟨#[65]⟩, .string ⟨#[68]⟩]
theorem fm154 : ((Ly.run zctx3 6000 [] (Ly.start Tryd.f22 [.int .u8 154] H0)).end?.map fun x => (x.1, x.2.1, x.2.2.next, x.2.2.get 3)) = some ([], .slice (some ⟨3, 0, none⟩) 3 3, 4, some (LO.cells fw154 9)) := by kernel_rfl
noncomputable def fw155 : List Value := [.string ⟨#[83, 66, 67]⟩, .string ⟨#[65]⟩, .string ⟨#[69]⟩]
theorem fm155 : ((Ly.run zctx3 6000 [] (Ly.start Tryd.f22 [.int .u8 155] H0)).end?.map fun x => (x.1, x.2.1, x.2.2.next, x.2.2.get 3)) = some ([], .slice (some ⟨3, 0, none⟩) 3 3, 4, some (LO.cells fw155 9)) := by kernel_rfl
noncomputable def fw156 : List Value := [.string ⟨#[83, 66, 67]⟩, .string ⟨#[65]⟩, .string ⟨#[72]⟩]
theorem fm156 : ((Ly.run zctx3 6000 [] (Ly.start Tryd.f22 [.int .u8 156] H0)).end?.map fun x => (x.1, x.2.1, x.2.2.next, x.2.2.get 3)) = some ([], .slice (some ⟨3, 0, none⟩) 3 3, 4, some (LO.cells fw156 9)) := by kernel_rfl
noncomputable def fw157 : List Value := [.string ⟨#[83, 66, 67]⟩, .string ⟨#[65]⟩, .string ⟨#[76]⟩]
theorem fm157 : ((Ly.run zctx3 6000 [] (Ly.start Tryd.f22 [.int .u8 157] H0)).end?.map fun x => (x.1, x.2.1, x.2.2.next, x.2.2.get 3)) = some ([], .slice (some ⟨3, 0, none⟩) 3 3, 4, some (LO.cells fw157 9)) := by kernel_rfl
noncomputable def fw158 : List Value := [.string ⟨#[83, 66, 67]⟩, .string ⟨#[65]⟩, .string ⟨#[40, 72, 76, 41]⟩]
theorem fm158 : ((Ly.run zctx3 6000 [] (Ly.start Tryd.f22 [.int .u8 158] H0)).end?.map fun x => (x.1, x.2.1, x.2.2.next, x.2.2.get 3)) = some ([], .slice (some ⟨3, 0, none⟩) 3 3, 4, some (LO.cells fw158 9)) := by kernel_rfl
noncomputable def fw159 : List Value := [.string ⟨#[83, 66, 67]⟩, .string ⟨#[65]⟩, .string ⟨#[65]⟩]
theorem fm159 : ((Ly.run zctx3 6000 [] (Ly.start Tryd.f22 [.int .u8 159] H0)).end?.map fun x => (x.1, x.2.1, x.2.2.next, x.2.2.get 3)) = some ([], .slice (some ⟨3, 0, none⟩) 3 3, 4, some (LO.cells fw159 9)) := by kernel_rfl
end Go.Proofs.YtkoeiednpbedlaaDoor
