/- form at bytes 0 to 31. By program (genzt.py). -/
import Derived.Test.YtkoeiednpbedlaaDoorZd
import Derived.KernelRfl
namespace Go.Proofs.YtkoeiednpbedlaaDoor
open Go Go.Ly Go.RowKit
set_option linter.unusedVariables false
set_option linter.unusedSimpArgs false
noncomputable def fw0 : List Value := [.string ⟨#[78, 79, 80]⟩]
theorem fm0 : ((Ly.run zctx3 6000 [] (Ly.start Tryd.f22 [.int .u8 0] H0)).end?.map fun x => (x.1, x.2.1, x.2.2.next, x.2.2.get 1)) = some ([], .slice (some ⟨1, 0, none⟩) 1 1, 2, some (LO.cells fw0 9)) := by kernel_rfl
noncomputable def fw1 : List Value := [.string ⟨#[76, 68]⟩, .string ⟨#[66, 67]⟩, .string ⟨#[110, 110]⟩]
theorem fm1 : ((Ly.run zctx3 6000 [] (Ly.start Tryd.f22 [.int .u8 1] H0)).end?.map fun x => (x.1, x.2.1, x.2.2.next, x.2.2.get 2)) = some ([], .slice (some ⟨2, 0, none⟩) 3 3, 3, some (LO.cells fw1 9)) := by kernel_rfl
noncomputable def fw2 : List Value := [.string ⟨#[76, 68]⟩, .string ⟨#[40, 66, 67, 41]⟩, .string ⟨#[65]⟩]
theorem fm2 : ((Ly.run zctx3 6000 [] (Ly.start Tryd.f22 [.int .u8 2] H0)).end?.map fun x => (x.1, x.2.1, x.2.2.next, x.2.2.get 2)) = some ([], .slice (some ⟨2, 0, none⟩) 3 3, 3, some (LO.cells fw2 9)) := by kernel_rfl
noncomputable def fw3 : List Value := [.string ⟨#[73, 78, 67]⟩, .string ⟨#[66, 67]⟩]
theorem fm3 : ((Ly.run zctx3 6000 [] (Ly.start Tryd.f22 [.int .u8 3] H0)).end?.map fun x => (x.1, x.2.1, x.2.2.next, x.2.2.get 2)) = some ([], .slice (some ⟨2, 0, none⟩) 2 2, 3, some (LO.cells fw3 9)) := by kernel_rfl
noncomputable def fw4 : List Value := [.string ⟨#[73, 78, 67]⟩, .string ⟨#[66]⟩]
theorem fm4 : ((Ly.run zctx3 6000 [] (Ly.start Tryd.f22 [.int .u8 4] H0)).end?.map fun x => (x.1, x.2.1, x.2.2.next, x.2.2.get 2)) = some ([], .slice (some ⟨2, 0, none⟩) 2 2, 3, some (LO.cells fw4 9)) := by kernel_rfl
noncomputable def fw5 : List Value := [.string ⟨#[68, 69, 67]⟩, .string ⟨#[66]⟩]
theorem fm5 : ((Ly.run zctx3 6000 [] (Ly.start Tryd.f22 [.int .u8 5] H0)).end?.map fun x => (x.1, x.2.1, x.2.2.next, x.2.2.get 2)) = some ([], .slice (some ⟨2, 0, none⟩) 2 2, 3, some (LO.cells fw5 9)) := by kernel_rfl
noncomputable def fw6 : List Value := [.string ⟨#[76, 68]⟩, .string ⟨#[66]⟩, .string ⟨#[110]⟩]
theorem fm6 : ((Ly.run zctx3 6000 [] (Ly.start Tryd.f22 [.int .u8 6] H0)).end?.map fun x => (x.1, x.2.1, x.2.2.next, x.2.2.get 2)) = some ([], .slice (some ⟨2, 0, none⟩) 3 3, 3, some (LO.cells fw6 9)) := by kernel_rfl
noncomputable def fw7 : List Value := [.string ⟨#[82, 76, 67, 65]⟩]
theorem fm7 : ((Ly.run zctx3 6000 [] (Ly.start Tryd.f22 [.int .u8 7] H0)).end?.map fun x => (x.1, x.2.1, x.2.2.next, x.2.2.get 2)) = some ([], .slice (some ⟨2, 0, none⟩) 1 1, 3, some (LO.cells fw7 9)) := by kernel_rfl
theorem fm8 : (Ly.run zctx3 6000 [] (Ly.start Tryd.f22 [.int .u8 8] H0)).out? = some ([], .slice none 0 0) := by kernel_rfl
noncomputable def fw9 : List Value := [.string ⟨#[65, 68, 68]⟩, .string ⟨#[72, 76]⟩, .string ⟨#[66, 67]⟩]
theorem fm9 : ((Ly.run zctx3 6000 [] (Ly.start Tryd.f22 [.int .u8 9] H0)).end?.map fun x => (x.1, x.2.1, x.2.2.next, x.2.2.get 2)) = some ([], .slice (some ⟨2, 0, none⟩) 3 3, 3, some (LO.cells fw9 9)) := by kernel_rfl
noncomputable def fw10 : List Value := [.string ⟨#[76, 68]⟩, .string ⟨#[65]⟩, .string ⟨#[40, 66, 67, 41]⟩]
theorem fm10 : ((Ly.run zctx3 6000 [] (Ly.start Tryd.f22 [.int .u8 10] H0)).end?.map fun x => (x.1, x.2.1, x.2.2.next, x.2.2.get 2)) = some ([], .slice (some ⟨2, 0, none⟩) 3 3, 3, some (LO.cells fw10 9)) := by kernel_rfl
noncomputable def fw11 : List Value := [.string ⟨#[68, 69, 67]⟩, .string ⟨#[66, 67]⟩]
theorem fm11 : ((Ly.run zctx3 6000 [] (Ly.start Tryd.f22 [.int .u8 11] H0)).end?.map fun x => (x.1, x.2.1, x.2.2.next, x.2.2.get 2)) = some ([], .slice (some ⟨2, 0, none⟩) 2 2, 3, some (LO.cells fw11 9)) := by kernel_rfl
noncomputable def fw12 : List Value := [.string ⟨#[73, 78, 67]⟩, .string ⟨#[67]⟩]
theorem fm12 : ((Ly.run zctx3 6000 [] (Ly.start Tryd.f22 [.int .u8 12] H0)).end?.map fun x => (x.1, x.2.1, x.2.2.next, x.2.2.get 2)) = some ([], .slice (some ⟨2, 0, none⟩) 2 2, 3, some (LO.cells fw12 9)) := by kernel_rfl
noncomputable def fw13 : List Value := [.string ⟨#[68, 69, 67]⟩, .string ⟨#[67]⟩]
theorem fm13 : ((Ly.run zctx3 6000 [] (Ly.start Tryd.f22 [.int .u8 13] H0)).end?.map fun x => (x.1, x.2.1, x.2.2.next, x.2.2.get 2)) = some ([], .slice (some ⟨2, 0, none⟩) 2 2, 3, some (LO.cells fw13 9)) := by kernel_rfl
noncomputable def fw14 : List Value := [.string ⟨#[76, 68]⟩, .string ⟨#[67]⟩, .string ⟨#[110]⟩]
theorem fm14 : ((Ly.run zctx3 6000 [] (Ly.start Tryd.f22 [.int .u8 14] H0)).end?.map fun x => (x.1, x.2.1, x.2.2.next, x.2.2.get 2)) = some ([], .slice (some ⟨2, 0, none⟩) 3 3, 3, some (LO.cells fw14 9)) := by kernel_rfl
noncomputable def fw15 : List Value := [.string ⟨#[82, 82, 67, 65]⟩]
theorem fm15 : ((Ly.run zctx3 6000 [] (Ly.start Tryd.f22 [.int .u8 15] H0)).end?.map fun x => (x.1, x.2.1, x.2.2.next, x.2.2.get 2)) = some ([], .slice (some ⟨2, 0, none⟩) 1 1, 3, some (LO.cells fw15 9)) := by kernel_rfl
theorem fm16 : (Ly.run zctx3 6000 [] (Ly.start Tryd.f22 [.int .u8 16] H0)).out? = some ([], .slice none 0 0) := by kernel_rfl
noncomputable def fw17 : List Value := [.string ⟨#[76, 68]⟩, .string ⟨#[68, 69]⟩, .string ⟨#[110, 110]⟩]
theorem fm17 : ((Ly.run zctx3 6000 [] (Ly.start Tryd.f22 [.int .u8 17] H0)).end?.map fun x => (x.1, x.2.1, x.2.2.next, x.2.2.get 2)) = some ([], .slice (some ⟨2, 0, none⟩) 3 3, 3, some (LO.cells fw17 9)) := by kernel_rfl
noncomputable def fw18 : List Value := [.string ⟨#[76, 68]⟩, .string ⟨#[40, 68, 69, 41]⟩, .string ⟨#[65]⟩]
theorem fm18 : ((Ly.run zctx3 6000 [] (Ly.start Tryd.f22 [.int .u8 18] H0)).end?.map fun x => (x.1, x.2.1, x.2.2.next, x.2.2.get 2)) = some ([], .slice (some ⟨2, 0, none⟩) 3 3, 3, some (LO.cells fw18 9)) := by kernel_rfl
noncomputable def fw19 : List Value := [.string ⟨#[73, 78, 67]⟩, .string ⟨#[68, 69]⟩]
theorem fm19 : ((Ly.run zctx3 6000 [] (Ly.start Tryd.f22 [.int .u8 19] H0)).end?.map fun x => (x.1, x.2.1, x.2.2.next, x.2.2.get 2)) = some ([], .slice (some ⟨2, 0, none⟩) 2 2, 3, some (LO.cells fw19 9)) := by kernel_rfl
noncomputable def fw20 : List Value := [.string ⟨#[73, 78, 67]⟩, .string ⟨#[68]⟩]
theorem fm20 : ((Ly.run zctx3 6000 [] (Ly.start Tryd.f22 [.int .u8 20] H0)).end?.map fun x => (x.1, x.2.1, x.2.2.next, x.2.2.get 2)) = some ([], .slice (some ⟨2, 0, none⟩) 2 2, 3, some (LO.cells fw20 9)) := by kernel_rfl
noncomputable def fw21 : List Value := [.string ⟨#[68, 69, 67]⟩, .string ⟨#[68]⟩]
theorem fm21 : ((Ly.run zctx3 6000 [] (Ly.start Tryd.f22 [.int .u8 21] H0)).end?.map fun x => (x.1, x.2.1, x.2.2.next, x.2.2.get 2)) = some ([], .slice (some ⟨2, 0, none⟩) 2 2, 3, some (LO.cells fw21 9)) := by kernel_rfl
noncomputable def fw22 : List Value := [.string ⟨#[76, 68]⟩, .string ⟨#[68]⟩, .string ⟨#[110]⟩]
theorem fm22 : ((Ly.run zctx3 6000 [] (Ly.start Tryd.f22 [.int .u8 22] H0)).end?.map fun x => (x.1, x.2.1, x.2.2.next, x.2.2.get 2)) = some ([], .slice (some ⟨2, 0, none⟩) 3 3, 3, some (LO.cells fw22 9)) := by kernel_rfl
noncomputable def fw23 : List Value := [.string ⟨#[82, 76, 65]⟩]
theorem fm23 : ((Ly.run zctx3 6000 [] (Ly.start Tryd.f22 [.int .u8 23] H0)).end?.map fun x => (x.1, x.2.1, x.2.2.next, x.2.2.get 2)) = some ([], .slice (some ⟨2, 0, none⟩) 1 1, 3, some (LO.cells fw23 9)) := by kernel_rfl
theorem fm24 : (Ly.run zctx3 6000 [] (Ly.start Tryd.f22 [.int .u8 24] H0)).out? = some ([], .slice none 0 0) := by kernel_rfl
noncomputable def fw25 : List Value := [.string ⟨#[65, 68, 68]⟩, .string ⟨#[72, 76]⟩, .string ⟨#[68, 69]⟩]
theorem fm25 : ((Ly.run zctx3 6000 [] (Ly.start Tryd.f22 [.int .u8 25] H0)).end?.map fun x => (x.1, x.2.1, x.2.2.next, x.2.2.get 2)) = some ([], .slice (some ⟨2, 0, none⟩) 3 3, 3, some (LO.cells fw25 9)) := by kernel_rfl
noncomputable def fw26 : List Value := [.string ⟨#[76, 68]⟩, .string ⟨#[65]⟩, .string ⟨#[40, 68, 69, 41]⟩]
theorem fm26 : ((Ly.run zctx3 6000 [] (Ly.start Tryd.f22 [.int .u8 26] H0)).end?.map fun x => (x.1, x.2.1, x.2.2.next, x.2.2.get 2)) = some ([], .slice (some ⟨2, 0, none⟩) 3 3, 3, some (LO.cells fw26 9)) := by kernel_rfl
noncomputable def fw27 : List Value := [.string ⟨#[68, 69, 67]⟩, .string ⟨#[68, 69]⟩]
theorem fm27 : ((Ly.run zctx3 6000 [] (Ly.start Tryd.f22 [.int .u8 27] H0)).end?.map fun x => (x.1, x.2.1, x.2.2.next, x.2.2.get 2)) = some ([], .slice (some ⟨2, 0, none⟩) 2 2, 3, some (LO.cells fw27 9)) := by kernel_rfl
noncomputable def fw28 : List Value := [.string ⟨#[73, 78, 67]⟩, .string ⟨#[69]⟩]
theorem fm28 : ((Ly.run zctx3 6000 [] (Ly.start Tryd.f22 [.int .u8 28] H0)).end?.map fun x => (x.1, x.2.1, x.2.2.next, x.2.2.get 2)) = some ([], .slice (some ⟨2, 0, none⟩) 2 2, 3, some (LO.cells fw28 9)) := by kernel_rfl
noncomputable def fw29 : List Value := [.string ⟨#[68, 69, 67]⟩, .string ⟨#[69]⟩]
theorem fm29 : ((Ly.run zctx3 6000 [] (Ly.start Tryd.f22 [.int .u8 29] H0)).end?.map fun x => (x.1, x.2.1, x.2.2.next, x.2.2.get 2)) = some ([], .slice (some ⟨2, 0, none⟩) 2 2, 3, some (LO.cells fw29 9)) := by kernel_rfl
noncomputable def fw30 : List Value := [.string ⟨#[76, 68]⟩, .string ⟨#[69]⟩, .string ⟨#[110]⟩]
theorem fm30 : ((Ly.run zctx3 6000 [] (Ly.start Tryd.f22 [.int .u8 30] H0)).end?.map fun x => (x.1, x.2.1, x.2.2.next, x.2.2.get 2)) = some ([], .slice (some ⟨2, 0, none⟩) 3 3, 3, some (LO.cells fw30 9)) := by kernel_rfl
noncomputable def fw31 : List Value := [.string ⟨#[82, 82, 65]⟩]
theorem fm31 : ((Ly.run zctx3 6000 [] (Ly.start Tryd.f22 [.int .u8 31] H0)).end?.map fun x => (x.1, x.2.1, x.2.2.next, x.2.2.get 2)) = some ([], .slice (some ⟨2, 0, none⟩) 1 1, 3, some (LO.cells fw31 9)) := by kernel_rfl
end Go.Proofs.YtkoeiednpbedlaaDoor
