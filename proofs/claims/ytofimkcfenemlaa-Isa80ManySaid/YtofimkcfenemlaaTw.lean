/- A function of a byte that answers a new row of texts, by a table. By program (gentw.py). -/
import Derived.Test.YtofimkcfenemlaaCy
import Derived.Test.YtofimkcfenemlaaLyX
import Derived.KernelRfl
namespace Go.Proofs.Ytofimkcfenemlaa
open Go Go.Ly Go.RowKit
set_option linter.unusedVariables false
set_option linter.unusedSimpArgs false
noncomputable def sB (l : List UInt8) : Value := .string ⟨⟨l⟩⟩
noncomputable def eqSs : List Value → List (List UInt8) → Bool
  | [], [] => true
  | .string s :: r, t :: q => eqB s.data.toList t && eqSs r q
  | _, _ => false
theorem eqSs_eq : ∀ (cs : List Value) (ts : List (List UInt8)), eqSs cs ts = true → cs = ts.map sB
  | [], [], _ => rfl
  | .string s :: r, t :: q, h => by
    simp only [eqSs, Bool.and_eq_true] at h
    rw [eqB_eq, beq_iff_eq] at h
    rw [List.map_cons, ← eqSs_eq r q h.2]
    congr 1
    unfold sB
    congr 1
    apply ByteArray.ext; apply Array.ext'; exact h.1
  | [], _ :: _, h => by simp [eqSs] at h
  | .string _ :: _, [], h => by simp [eqSs] at h
  | .bool _ :: _, _, h => by simp [eqSs] at h
  | .int _ _ :: _, _, h => by simp [eqSs] at h
  | .float _ _ :: _, _, h => by simp [eqSs] at h
  | .complex _ _ _ :: _, _, h => by simp [eqSs] at h
  | .pointer _ :: _, _, h => by simp [eqSs] at h
  | .slice _ _ _ :: _, _, h => by simp [eqSs] at h
  | .map _ :: _, _, h => by simp [eqSs] at h
  | .func _ _ _ :: _, _, h => by simp [eqSs] at h
  | .nilFunc :: _, _, h => by simp [eqSs] at h
  | .iface _ _ :: _, _, h => by simp [eqSs] at h
  | .nilIface :: _, _, h => by simp [eqSs] at h
  | .agg _ :: _, _, h => by simp [eqSs] at h
  | .tuple _ :: _, _, h => by simp [eqSs] at h
  | .chan _ :: _, _, h => by simp [eqSs] at h
noncomputable def wI (o : Option (List (Bool × Bool) × Value × Heap)) (e : Nat × Nat × List (List UInt8)) : Bool :=
  match o with
  | some ([], .slice (some a) n c, K) => Nat.beq a.block e.2.1 && (Nat.beq a.off 0 && (a.spot.isNone && (Nat.beq n e.2.2.length && (Nat.beq c e.2.2.length && (Nat.beq K.next e.1 && (Nat.blt e.2.1 e.1 && (!(e.2.2.isEmpty) && (match K.get e.2.1 with
    | some (.cells cs t) => Nat.beq t 9 && eqSs cs e.2.2
    | _ => false))))))))
  | some ([], .slice none n c, K) => Nat.beq n 0 && (Nat.beq c 0 && e.2.2.isEmpty)
  | _ => false
noncomputable def wtab : Tr (Nat × Nat × List (List UInt8)) := (.node (some (1, 0, [[78, 79, 80]])) (.node (some (2, 1, [[76, 88, 73], [66], [100, 49, 54]])) (.node (some (2, 1, [[73, 78, 88], [66]])) (.node (some (2, 1, [[82, 76, 67]])) (.node (some (2, 1, [[82, 82, 67]])) (.node (some (2, 1, [[82, 65, 82]])) (.node (some (2, 1, [[67, 77, 67]])) (.node (some (3, 2, [[77, 79, 86], [65], [65]])) (.node (some (3, 2, [[82, 83, 84], [55]])) .nil .nil) .nil) (.node (some (3, 2, [[67, 77, 80], [65]])) .nil .nil)) (.node (some (3, 2, [[77, 79, 86], [69], [65]])) (.node (some (3, 2, [[83, 66, 66], [65]])) .nil .nil) (.node (some (3, 2, [[82, 83, 84], [51]])) .nil .nil))) (.node (some (2, 1, [[67, 77, 65]])) (.node (some (3, 2, [[77, 79, 86], [67], [65]])) (.node (some (3, 2, [[65, 68, 67], [65]])) .nil .nil) (.node (some (3, 2, [[82, 83, 84], [49]])) .nil .nil)) (.node (some (3, 2, [[77, 79, 86], [76], [65]])) (.node (some (3, 2, [[88, 82, 65], [65]])) .nil .nil) (.node (some (3, 2, [[82, 83, 84], [53]])) .nil .nil)))) (.node (some (2, 1, [[82, 65, 76]])) (.node (some (2, 1, [[68, 65, 65]])) (.node (some (3, 2, [[77, 79, 86], [66], [65]])) (.node (some (3, 2, [[65, 68, 68], [65]])) .nil .nil) (.node (some (3, 2, [[82, 83, 84], [48]])) .nil .nil)) (.node (some (3, 2, [[77, 79, 86], [72], [65]])) (.node (some (3, 2, [[65, 78, 65], [65]])) .nil .nil) (.node (some (3, 2, [[82, 83, 84], [52]])) .nil .nil))) (.node (some (2, 1, [[83, 84, 67]])) (.node (some (3, 2, [[77, 79, 86], [68], [65]])) (.node (some (3, 2, [[83, 85, 66], [65]])) .nil .nil) (.node (some (3, 2, [[82, 83, 84], [50]])) .nil .nil)) (.node (some (3, 2, [[77, 79, 86], [77], [65]])) (.node (some (3, 2, [[79, 82, 65], [65]])) .nil .nil) (.node (some (3, 2, [[82, 83, 84], [54]])) .nil .nil))))) (.node (some (2, 1, [[68, 67, 88], [66]])) (.node (some (2, 1, [[73, 78, 88], [68]])) (.node (some (2, 1, [[73, 78, 88], [72]])) (.node (some (3, 2, [[77, 79, 86], [66], [69]])) (.node (some (3, 2, [[65, 68, 68], [69]])) .nil .nil) (.node (some (2, 1, [[74, 77, 80], [100, 49, 54]])) .nil .nil)) (.node (some (3, 2, [[77, 79, 86], [72], [69]])) (.node (some (3, 2, [[65, 78, 65], [69]])) .nil .nil) (.node (some (3, 2, [[88, 84, 72, 76]])) .nil .nil))) (.node (some (2, 1, [[73, 78, 88], [83, 80]])) (.node (some (3, 2, [[77, 79, 86], [68], [69]])) (.node (some (3, 2, [[83, 85, 66], [69]])) .nil .nil) (.node (some (3, 2, [[79, 85, 84], [100, 56]])) .nil .nil)) (.node (some (3, 2, [[77, 79, 86], [77], [69]])) (.node (some (3, 2, [[79, 82, 65], [69]])) .nil .nil) (.node (some (3, 2, [[68, 73]])) .nil .nil)))) (.node (some (2, 1, [[68, 67, 88], [68]])) (.node (some (2, 1, [[68, 67, 88], [72]])) (.node (some (3, 2, [[77, 79, 86], [67], [69]])) (.node (some (3, 2, [[65, 68, 67], [69]])) .nil .nil) (.node (some (0, 0, [])) .nil .nil)) (.node (some (3, 2, [[77, 79, 86], [76], [69]])) (.node (some (3, 2, [[88, 82, 65], [69]])) .nil .nil) (.node (some (3, 2, [[88, 67, 72, 71]])) .nil .nil))) (.node (some (2, 1, [[68, 67, 88], [83, 80]])) (.node (some (3, 2, [[77, 79, 86], [69], [69]])) (.node (some (3, 2, [[83, 66, 66], [69]])) .nil .nil) (.node (some (3, 2, [[73, 78], [100, 56]])) .nil .nil)) (.node (some (3, 2, [[77, 79, 86], [65], [69]])) (.node (some (3, 2, [[67, 77, 80], [69]])) .nil .nil) (.node (some (3, 2, [[69, 73]])) .nil .nil)))))) (.node (some (2, 1, [[68, 67, 82], [66]])) (.node (some (2, 1, [[68, 65, 68], [66]])) (.node (some (2, 1, [[76, 88, 73], [68], [100, 49, 54]])) (.node (some (2, 1, [[76, 88, 73], [72], [100, 49, 54]])) (.node (some (3, 2, [[77, 79, 86], [66], [67]])) (.node (some (3, 2, [[65, 68, 68], [67]])) .nil .nil) (.node (some (2, 1, [[80, 79, 80], [66]])) .nil .nil)) (.node (some (3, 2, [[77, 79, 86], [72], [67]])) (.node (some (3, 2, [[65, 78, 65], [67]])) .nil .nil) (.node (some (2, 1, [[80, 79, 80], [72]])) .nil .nil))) (.node (some (2, 1, [[76, 88, 73], [83, 80], [100, 49, 54]])) (.node (some (3, 2, [[77, 79, 86], [68], [67]])) (.node (some (3, 2, [[83, 85, 66], [67]])) .nil .nil) (.node (some (2, 1, [[80, 79, 80], [68]])) .nil .nil)) (.node (some (3, 2, [[77, 79, 86], [77], [67]])) (.node (some (3, 2, [[79, 82, 65], [67]])) .nil .nil) (.node (some (2, 1, [[80, 79, 80], [80, 83, 87]])) .nil .nil)))) (.node (some (2, 1, [[68, 65, 68], [68]])) (.node (some (2, 1, [[68, 65, 68], [72]])) (.node (some (3, 2, [[77, 79, 86], [67], [67]])) (.node (some (3, 2, [[65, 68, 67], [67]])) .nil .nil) (.node (some (3, 2, [[82, 69, 84]])) .nil .nil)) (.node (some (3, 2, [[77, 79, 86], [76], [67]])) (.node (some (3, 2, [[88, 82, 65], [67]])) .nil .nil) (.node (some (3, 2, [[80, 67, 72, 76]])) .nil .nil))) (.node (some (2, 1, [[68, 65, 68], [83, 80]])) (.node (some (3, 2, [[77, 79, 86], [69], [67]])) (.node (some (3, 2, [[83, 66, 66], [67]])) .nil .nil) (.node (some (0, 0, [])) .nil .nil)) (.node (some (3, 2, [[77, 79, 86], [65], [67]])) (.node (some (3, 2, [[67, 77, 80], [67]])) .nil .nil) (.node (some (3, 2, [[83, 80, 72, 76]])) .nil .nil))))) (.node (some (2, 1, [[68, 67, 82], [67]])) (.node (some (2, 1, [[68, 67, 82], [68]])) (.node (some (2, 1, [[68, 67, 82], [72]])) (.node (some (3, 2, [[77, 79, 86], [66], [76]])) (.node (some (3, 2, [[65, 68, 68], [76]])) .nil .nil) (.node (some (2, 1, [[80, 85, 83, 72], [66]])) .nil .nil)) (.node (some (3, 2, [[77, 79, 86], [72], [76]])) (.node (some (3, 2, [[65, 78, 65], [76]])) .nil .nil) (.node (some (2, 1, [[80, 85, 83, 72], [72]])) .nil .nil))) (.node (some (2, 1, [[68, 67, 82], [77]])) (.node (some (3, 2, [[77, 79, 86], [68], [76]])) (.node (some (3, 2, [[83, 85, 66], [76]])) .nil .nil) (.node (some (2, 1, [[80, 85, 83, 72], [68]])) .nil .nil)) (.node (some (3, 2, [[77, 79, 86], [77], [76]])) (.node (some (3, 2, [[79, 82, 65], [76]])) .nil .nil) (.node (some (2, 1, [[80, 85, 83, 72], [80, 83, 87]])) .nil .nil)))) (.node (some (2, 1, [[68, 67, 82], [69]])) (.node (some (2, 1, [[68, 67, 82], [76]])) (.node (some (3, 2, [[77, 79, 86], [67], [76]])) (.node (some (3, 2, [[65, 68, 67], [76]])) .nil .nil) (.node (some (2, 1, [[67, 65, 76, 76], [100, 49, 54]])) .nil .nil)) (.node (some (3, 2, [[77, 79, 86], [76], [76]])) (.node (some (3, 2, [[88, 82, 65], [76]])) .nil .nil) (.node (some (0, 0, [])) .nil .nil))) (.node (some (2, 1, [[68, 67, 82], [65]])) (.node (some (3, 2, [[77, 79, 86], [69], [76]])) (.node (some (3, 2, [[83, 66, 66], [76]])) .nil .nil) (.node (some (0, 0, [])) .nil .nil)) (.node (some (3, 2, [[77, 79, 86], [65], [76]])) (.node (some (3, 2, [[67, 77, 80], [76]])) .nil .nil) (.node (some (0, 0, [])) .nil .nil))))))) (.node (some (2, 1, [[83, 84, 65, 88], [66]])) (.node (some (2, 1, [[73, 78, 82], [66]])) (.node (some (0, 0, [])) (.node (some (0, 0, [])) (.node (some (0, 0, [])) (.node (some (3, 2, [[77, 79, 86], [66], [66]])) (.node (some (3, 2, [[65, 68, 68], [66]])) .nil .nil) (.node (some (3, 2, [[82, 78, 90]])) .nil .nil)) (.node (some (3, 2, [[77, 79, 86], [72], [66]])) (.node (some (3, 2, [[65, 78, 65], [66]])) .nil .nil) (.node (some (3, 2, [[82, 80, 79]])) .nil .nil))) (.node (some (0, 0, [])) (.node (some (3, 2, [[77, 79, 86], [68], [66]])) (.node (some (3, 2, [[83, 85, 66], [66]])) .nil .nil) (.node (some (3, 2, [[82, 78, 67]])) .nil .nil)) (.node (some (3, 2, [[77, 79, 86], [77], [66]])) (.node (some (3, 2, [[79, 82, 65], [66]])) .nil .nil) (.node (some (3, 2, [[82, 80]])) .nil .nil)))) (.node (some (0, 0, [])) (.node (some (0, 0, [])) (.node (some (3, 2, [[77, 79, 86], [67], [66]])) (.node (some (3, 2, [[65, 68, 67], [66]])) .nil .nil) (.node (some (3, 2, [[82, 90]])) .nil .nil)) (.node (some (3, 2, [[77, 79, 86], [76], [66]])) (.node (some (3, 2, [[88, 82, 65], [66]])) .nil .nil) (.node (some (3, 2, [[82, 80, 69]])) .nil .nil))) (.node (some (0, 0, [])) (.node (some (3, 2, [[77, 79, 86], [69], [66]])) (.node (some (3, 2, [[83, 66, 66], [66]])) .nil .nil) (.node (some (3, 2, [[82, 67]])) .nil .nil)) (.node (some (3, 2, [[77, 79, 86], [65], [66]])) (.node (some (3, 2, [[67, 77, 80], [66]])) .nil .nil) (.node (some (3, 2, [[82, 77]])) .nil .nil))))) (.node (some (2, 1, [[73, 78, 82], [67]])) (.node (some (2, 1, [[73, 78, 82], [68]])) (.node (some (2, 1, [[73, 78, 82], [72]])) (.node (some (3, 2, [[77, 79, 86], [66], [72]])) (.node (some (3, 2, [[65, 68, 68], [72]])) .nil .nil) (.node (some (3, 2, [[67, 78, 90], [100, 49, 54]])) .nil .nil)) (.node (some (3, 2, [[77, 79, 86], [72], [72]])) (.node (some (3, 2, [[65, 78, 65], [72]])) .nil .nil) (.node (some (3, 2, [[67, 80, 79], [100, 49, 54]])) .nil .nil))) (.node (some (2, 1, [[73, 78, 82], [77]])) (.node (some (3, 2, [[77, 79, 86], [68], [72]])) (.node (some (3, 2, [[83, 85, 66], [72]])) .nil .nil) (.node (some (3, 2, [[67, 78, 67], [100, 49, 54]])) .nil .nil)) (.node (some (3, 2, [[77, 79, 86], [77], [72]])) (.node (some (3, 2, [[79, 82, 65], [72]])) .nil .nil) (.node (some (3, 2, [[67, 80], [100, 49, 54]])) .nil .nil)))) (.node (some (2, 1, [[73, 78, 82], [69]])) (.node (some (2, 1, [[73, 78, 82], [76]])) (.node (some (3, 2, [[77, 79, 86], [67], [72]])) (.node (some (3, 2, [[65, 68, 67], [72]])) .nil .nil) (.node (some (3, 2, [[67, 90], [100, 49, 54]])) .nil .nil)) (.node (some (3, 2, [[77, 79, 86], [76], [72]])) (.node (some (3, 2, [[88, 82, 65], [72]])) .nil .nil) (.node (some (3, 2, [[67, 80, 69], [100, 49, 54]])) .nil .nil))) (.node (some (2, 1, [[73, 78, 82], [65]])) (.node (some (3, 2, [[77, 79, 86], [69], [72]])) (.node (some (3, 2, [[83, 66, 66], [72]])) .nil .nil) (.node (some (3, 2, [[67, 67], [100, 49, 54]])) .nil .nil)) (.node (some (3, 2, [[77, 79, 86], [65], [72]])) (.node (some (3, 2, [[67, 77, 80], [72]])) .nil .nil) (.node (some (3, 2, [[67, 77], [100, 49, 54]])) .nil .nil)))))) (.node (some (2, 1, [[77, 86, 73], [66], [100, 56]])) (.node (some (2, 1, [[76, 68, 65, 88], [66]])) (.node (some (2, 1, [[83, 84, 65, 88], [68]])) (.node (some (2, 1, [[83, 72, 76, 68], [100, 49, 54]])) (.node (some (3, 2, [[77, 79, 86], [66], [68]])) (.node (some (3, 2, [[65, 68, 68], [68]])) .nil .nil) (.node (some (3, 2, [[74, 78, 90], [100, 49, 54]])) .nil .nil)) (.node (some (3, 2, [[77, 79, 86], [72], [68]])) (.node (some (3, 2, [[65, 78, 65], [68]])) .nil .nil) (.node (some (3, 2, [[74, 80, 79], [100, 49, 54]])) .nil .nil))) (.node (some (2, 1, [[83, 84, 65], [100, 49, 54]])) (.node (some (3, 2, [[77, 79, 86], [68], [68]])) (.node (some (3, 2, [[83, 85, 66], [68]])) .nil .nil) (.node (some (3, 2, [[74, 78, 67], [100, 49, 54]])) .nil .nil)) (.node (some (3, 2, [[77, 79, 86], [77], [68]])) (.node (some (3, 2, [[79, 82, 65], [68]])) .nil .nil) (.node (some (3, 2, [[74, 80], [100, 49, 54]])) .nil .nil)))) (.node (some (2, 1, [[76, 68, 65, 88], [68]])) (.node (some (2, 1, [[76, 72, 76, 68], [100, 49, 54]])) (.node (some (3, 2, [[77, 79, 86], [67], [68]])) (.node (some (3, 2, [[65, 68, 67], [68]])) .nil .nil) (.node (some (3, 2, [[74, 90], [100, 49, 54]])) .nil .nil)) (.node (some (3, 2, [[77, 79, 86], [76], [68]])) (.node (some (3, 2, [[88, 82, 65], [68]])) .nil .nil) (.node (some (3, 2, [[74, 80, 69], [100, 49, 54]])) .nil .nil))) (.node (some (2, 1, [[76, 68, 65], [100, 49, 54]])) (.node (some (3, 2, [[77, 79, 86], [69], [68]])) (.node (some (3, 2, [[83, 66, 66], [68]])) .nil .nil) (.node (some (3, 2, [[74, 67], [100, 49, 54]])) .nil .nil)) (.node (some (3, 2, [[77, 79, 86], [65], [68]])) (.node (some (3, 2, [[67, 77, 80], [68]])) .nil .nil) (.node (some (3, 2, [[74, 77], [100, 49, 54]])) .nil .nil))))) (.node (some (2, 1, [[77, 86, 73], [67], [100, 56]])) (.node (some (2, 1, [[77, 86, 73], [68], [100, 56]])) (.node (some (2, 1, [[77, 86, 73], [72], [100, 56]])) (.node (some (3, 2, [[77, 79, 86], [66], [77]])) (.node (some (3, 2, [[65, 68, 68], [77]])) .nil .nil) (.node (some (3, 2, [[65, 68, 73], [100, 56]])) .nil .nil)) (.node (some (3, 2, [[77, 79, 86], [72], [77]])) (.node (some (3, 2, [[65, 78, 65], [77]])) .nil .nil) (.node (some (3, 2, [[65, 78, 73], [100, 56]])) .nil .nil))) (.node (some (2, 1, [[77, 86, 73], [77], [100, 56]])) (.node (some (3, 2, [[77, 79, 86], [68], [77]])) (.node (some (3, 2, [[83, 85, 66], [77]])) .nil .nil) (.node (some (3, 2, [[83, 85, 73], [100, 56]])) .nil .nil)) (.node (some (1, 0, [[72, 76, 84]])) (.node (some (3, 2, [[79, 82, 65], [77]])) .nil .nil) (.node (some (3, 2, [[79, 82, 73], [100, 56]])) .nil .nil)))) (.node (some (2, 1, [[77, 86, 73], [69], [100, 56]])) (.node (some (2, 1, [[77, 86, 73], [76], [100, 56]])) (.node (some (3, 2, [[77, 79, 86], [67], [77]])) (.node (some (3, 2, [[65, 68, 67], [77]])) .nil .nil) (.node (some (3, 2, [[65, 67, 73], [100, 56]])) .nil .nil)) (.node (some (3, 2, [[77, 79, 86], [76], [77]])) (.node (some (3, 2, [[88, 82, 65], [77]])) .nil .nil) (.node (some (3, 2, [[88, 82, 73], [100, 56]])) .nil .nil))) (.node (some (2, 1, [[77, 86, 73], [65], [100, 56]])) (.node (some (3, 2, [[77, 79, 86], [69], [77]])) (.node (some (3, 2, [[83, 66, 66], [77]])) .nil .nil) (.node (some (3, 2, [[83, 66, 73], [100, 56]])) .nil .nil)) (.node (some (3, 2, [[77, 79, 86], [65], [77]])) (.node (some (3, 2, [[67, 77, 80], [77]])) .nil .nil) (.node (some (3, 2, [[67, 80, 73], [100, 56]])) .nil .nil))))))))
noncomputable def wAt (n : Nat) : Nat × Nat × List (List UInt8) := (wtab.get n).getD (0, 0, [])
noncomputable def wRun (n : Nat) : Bool := wI (Ly.run env.bare 9000 [] (Ly.start Try.f29 [.int .u8 (n : Int)] H0)).end? (wAt n)
noncomputable def wE (H : Heap) (e : Nat × Nat × List (List UInt8)) : ER :=
  bif e.2.2.isEmpty then .val (.slice none 0 0) else freshE H e.1 e.2.1 (e.2.2.map sB) 9 (.slice (some ⟨e.2.1, 0, none⟩) e.2.2.length e.2.2.length)
noncomputable def wordsE (H : Heap) (args : List Value) : ER := match args with
  | [.int .u8 op] => bif inb op then wE H (wAt op.toNat) else .no
  | _ => .no
theorem getW : env.bare.fn.get 29 = some Try.f29 := by kernel_rfl
theorem plain_map : ∀ (l : List (List UInt8)), plainL (l.map sB) = true
  | [] => rfl
  | t :: r => by rw [List.map_cons]; show (plain (sB t) && plainL (r.map sB)) = true; rw [plain_map r]; rfl
theorem wE_good (h : ∀ n, n < 256 → wRun n = true) (H : Heap) (args : List Value) : HGood Try.prog 29 args H (wordsE H args) := by
  unfold wordsE
  split
  · rename_i op
    cases hi : inb op with
    | false => exact trivial
    | true =>
      rw [inb_iff] at hi
      obtain ⟨n, rfl⟩ := Int.eq_ofNat_of_zero_le hi.1
      have hr := h n (by omega)
      rw [cond_true, show ((n : Int)).toNat = n from rfl]
      unfold wRun at hr
      generalize wAt n = e at hr ⊢
      unfold wI at hr
      split at hr
      · rename_i a m c K ho
        simp only [Bool.and_eq_true] at hr
        obtain ⟨h1, h2, h3, h4, h5, h6, h7, h8, h9⟩ := hr
        have e1 := Nat.eq_of_beq_eq_true h1
        have e2 := Nat.eq_of_beq_eq_true h2
        have e4 := Nat.eq_of_beq_eq_true h4
        have e5 := Nat.eq_of_beq_eq_true h5
        have e6 := Nat.eq_of_beq_eq_true h6
        rw [Nat.blt_eq] at h7
        split at h9
        · rename_i cs t hg
          rw [Bool.and_eq_true] at h9
          have e9 := Nat.eq_of_beq_eq_true h9.1
          have e10 := eqSs_eq _ _ h9.2
          subst e9 e10
          have hne : e.2.2.isEmpty = false := by simpa using h8
          unfold wE
          rw [hne, cond_false]
          obtain ⟨ab, ao, asp⟩ := a
          simp only at e1 e2 h3
          have h3' : asp = none := by simpa using h3
          subst e1 e2 h3' e4 e5
          refine freshE_good (by simp [plainL, plain]) h7 (plain_map _) (LCalls_of (args := [.int .u8 (n : Int)]) (Env.bare_ok envOk) getW (by kernel_rfl) (MWp.done (Env.bare_ok envOk) 9000 [] ho trivial ⟨rfl, e6, hg, RO.end_lock ho⟩)) H
        · cases h9
      · rename_i m c K ho
        simp only [Bool.and_eq_true] at hr
        obtain ⟨h1, h2, h3⟩ := hr
        have e1 := Nat.eq_of_beq_eq_true h1
        have e2 := Nat.eq_of_beq_eq_true h2
        subst e1 e2
        unfold wE
        rw [h3, cond_true]
        refine HGood_val (by simp [plainL, plain]) (by simp [plain]) (fun w => ?_) H
        exact calls_plain (by simp [VRL, VR]) (fun ρ v' h => by simpa [VR] using h) (LCalls_of (args := [.int .u8 (n : Int)]) (Env.bare_ok envOk) getW (by kernel_rfl) (MWp.done (Env.bare_ok envOk) 9000 [] ho trivial rfl)) w
      · cases hr
  · exact trivial
end Go.Proofs.Ytofimkcfenemlaa
