/- Part 10 of the texts that the law needs, laid together. By program (pack.py). -/
import Derived.Test.YtdjmpilegommlaaPtd
import Derived.Test.YtdjmpilegommlaaPte
import Derived.Test.YtdjmpilegommlaaPtf
import Derived.Test.YtdjmpilegommlaaPti
import Derived.KernelRfl
import Derived.OpenShut
set_option linter.unusedVariables false
set_option linter.unusedSimpArgs false
noncomputable section
namespace Go.Proofs.Ytdjmpilegommlaa
open Go Go.Ly Go.RowKit
def nilS : Value := .slice none 0 0
def cellsPb (b : Nat) (m : Mc) (i o : Value) : List Value := [.int .u8 m.r0, .int .u8 m.r1, .int .u8 m.r2, .int .u8 m.r3, .int .u8 m.r4, .int .u8 m.r5, .int .u8 0, .int .u8 m.r7, .bool m.fs, .bool m.fz, .bool m.fx, .bool m.fp, .bool m.fc, .int .u16 m.sp, .int .u16 m.pc, .bool m.ie, .bool m.halt, i, o, sl b 65536]
theorem noP (b : Nat) (m : Mc) (i o : Value) : noTokL (cellsPb b m i o) = (noTok i && noTok o) := by simp [cellsPb, noTokL, noTok, sl]
def StQ (m : Mc) (g : Nat → Int) (m' : Mc) (k : Int) : Prop := ∀ (H : Heap) (p b : Nat), H.get p = some (.cells (cellsPb b m nilS nilS) 53) → H.get b = some (memL g) → p ≠ b → H.lock = 0 → Ly.Clean H → H.next + 64 < big → LCalls Try.prog 23 [ptr p] H (fun u K => u = .int .i64 k ∧ K.lock = 0 ∧ Ly.Clean K ∧ K.next = H.next + 62 ∧ (∃ iv ov, K.get p = some (.cells (cellsPb b m' iv ov) 53)) ∧ ∀ i, i < H.next → i ≠ p → i ≠ b → K.get i = H.get i)
theorem Stp.q {m m' : Mc} {g g' : Nat → Int} {k : Int} (he : Stp m g m' g' k) : StQ m g m' k := by
  intro H p b h1 h2 hpb hl hc hb
  refine LCalls.ltn fun hlt hsm => ?_
  have hnp := hlt _ _ h1
  have hnd : [p, b].Nodup := by simp [hpb]
  have hget := fun i => Heap.get_put (H := H) (o := .cells (tokAt [17, 18] 0 (cellsPb b m nilS nilS)) 53) (Nat.lt_trans hnp hsm) i
  have hs : Sit (H.put p (.cells (tokAt [17, 18] 0 (cellsPb b m nilS nilS)) 53)) (hP m g) [p, b] := by
    refine ⟨hl, rfl, hnd, fun i o hi => ?_⟩
    rcases i with _ | _ | i
    · simp only [hP, List.getElem?_cons_zero, Option.some.injEq] at hi; subst hi
      show (H.put p _).get p = _
      rw [hget, if_pos rfl]; rfl
    · simp only [hP, List.getElem?_cons_succ, List.getElem?_cons_zero, Option.some.injEq] at hi; subst hi
      show (H.put p _).get b = _
      rw [hget, if_neg hpb.symm, h2]; rfl
    · simp [hP] at hi
  have key : LCalls Try.prog 23 [ptr p] H _ := Ends.madeTok (c := cellsPb b m nilS nilS) (t := 53) (ps := [17, 18]) (b0 := p) (L := [p, b]) he (by rfl) hl h1 (by simp) hs hb hc (by rfl) (by rfl) (by rfl) (by
    intro o ho x hx
    simp only [hP, List.mem_cons, List.not_mem_nil, or_false] at ho
    rcases ho with rfl | rfl <;> (simp only [Option.some.injEq] at hx; subst hx)
    · refine ⟨rfl, ?_⟩
      show noTokL (cellsPb b m' nilS nilS) = true
      rw [noP]; rfl
    · exact ⟨rfl, rfl⟩)
  refine key.mono ?_
  rintro u K ⟨rfl, hM⟩
  exact ⟨rfl, hM.lock, hM.clean, by rw [hM.next]; rfl, ⟨_, _, hM.now 0 0 _ rfl rfl⟩, fun i hi hp hb => hM.old i hi (by simp [hp, hb])⟩
def hQ (m : Mc) (g : Nat → Int) : List (Option LO) := [some (.cells (cellsP m nilS nilS) 53), some (memL g)]
def sQ (m : Mc) (g : Nat → Int) (b0 b1 b2 : Int) : St := atSt Try.f23 kP none 2 (slots 130 [(0, ptr 0), (53, .slice (some ⟨2, 0, none⟩) 3 3)]) ((mkH (hQ m g)).new (.cells [.int .u8 b0, .int .u8 b1, .int .u8 b2] 5))
theorem juncQ (m : Mc) (g : Nat → Int) : haltF [0, 53] dP (Ly.run (haltAt cx3 43) 300 pathP (Ly.start Try.f23 [ptr 0] (mkH (hQ m g)))) = (true, tP m, true, (Try.f23, kP, none, 2), slots 130 [(0, ptr 0), (53, .slice (some ⟨2, 0, none⟩) 3 3)], (mkH (hQ m g)).new (.cells [.int .u8 (g (0 + m.pc.toNat * 1)), .int .u8 (g (at1 m.pc 1)), .int .u8 (g (at1 m.pc 2))] 5)) := by kernel_rfl
end Go.Proofs.Ytdjmpilegommlaa
namespace Go.Proofs.Ytdjmpilegommlaa
open Go Go.Ly Go.RowKit
theorem tab9_0 : ((List.range 8).all fun i => tabI (Ly.run env.bare 60000 [] (Ly.start Try.f9 [.int .u8 (((0 + i) : Nat) : Int)] H0)).val? (usesT (((0 + i) : Nat) : Int))) = true := by kernel_rfl
theorem tab9_1 : ((List.range 8).all fun i => tabI (Ly.run env.bare 60000 [] (Ly.start Try.f9 [.int .u8 (((8 + i) : Nat) : Int)] H0)).val? (usesT (((8 + i) : Nat) : Int))) = true := by kernel_rfl
theorem tab9_2 : ((List.range 8).all fun i => tabI (Ly.run env.bare 60000 [] (Ly.start Try.f9 [.int .u8 (((16 + i) : Nat) : Int)] H0)).val? (usesT (((16 + i) : Nat) : Int))) = true := by kernel_rfl
theorem tab9_3 : ((List.range 8).all fun i => tabI (Ly.run env.bare 60000 [] (Ly.start Try.f9 [.int .u8 (((24 + i) : Nat) : Int)] H0)).val? (usesT (((24 + i) : Nat) : Int))) = true := by kernel_rfl
theorem tab9_4 : ((List.range 8).all fun i => tabI (Ly.run env.bare 60000 [] (Ly.start Try.f9 [.int .u8 (((32 + i) : Nat) : Int)] H0)).val? (usesT (((32 + i) : Nat) : Int))) = true := by kernel_rfl
theorem tab9_5 : ((List.range 8).all fun i => tabI (Ly.run env.bare 60000 [] (Ly.start Try.f9 [.int .u8 (((40 + i) : Nat) : Int)] H0)).val? (usesT (((40 + i) : Nat) : Int))) = true := by kernel_rfl
theorem tab9_6 : ((List.range 8).all fun i => tabI (Ly.run env.bare 60000 [] (Ly.start Try.f9 [.int .u8 (((48 + i) : Nat) : Int)] H0)).val? (usesT (((48 + i) : Nat) : Int))) = true := by kernel_rfl
theorem tab9_7 : ((List.range 8).all fun i => tabI (Ly.run env.bare 60000 [] (Ly.start Try.f9 [.int .u8 (((56 + i) : Nat) : Int)] H0)).val? (usesT (((56 + i) : Nat) : Int))) = true := by kernel_rfl
theorem tab9_8 : ((List.range 8).all fun i => tabI (Ly.run env.bare 60000 [] (Ly.start Try.f9 [.int .u8 (((64 + i) : Nat) : Int)] H0)).val? (usesT (((64 + i) : Nat) : Int))) = true := by kernel_rfl
theorem tab9_9 : ((List.range 8).all fun i => tabI (Ly.run env.bare 60000 [] (Ly.start Try.f9 [.int .u8 (((72 + i) : Nat) : Int)] H0)).val? (usesT (((72 + i) : Nat) : Int))) = true := by kernel_rfl
theorem tab9_10 : ((List.range 8).all fun i => tabI (Ly.run env.bare 60000 [] (Ly.start Try.f9 [.int .u8 (((80 + i) : Nat) : Int)] H0)).val? (usesT (((80 + i) : Nat) : Int))) = true := by kernel_rfl
theorem tab9_11 : ((List.range 8).all fun i => tabI (Ly.run env.bare 60000 [] (Ly.start Try.f9 [.int .u8 (((88 + i) : Nat) : Int)] H0)).val? (usesT (((88 + i) : Nat) : Int))) = true := by kernel_rfl
theorem tab9_12 : ((List.range 8).all fun i => tabI (Ly.run env.bare 60000 [] (Ly.start Try.f9 [.int .u8 (((96 + i) : Nat) : Int)] H0)).val? (usesT (((96 + i) : Nat) : Int))) = true := by kernel_rfl
theorem tab9_13 : ((List.range 8).all fun i => tabI (Ly.run env.bare 60000 [] (Ly.start Try.f9 [.int .u8 (((104 + i) : Nat) : Int)] H0)).val? (usesT (((104 + i) : Nat) : Int))) = true := by kernel_rfl
theorem tab9_14 : ((List.range 8).all fun i => tabI (Ly.run env.bare 60000 [] (Ly.start Try.f9 [.int .u8 (((112 + i) : Nat) : Int)] H0)).val? (usesT (((112 + i) : Nat) : Int))) = true := by kernel_rfl
theorem tab9_15 : ((List.range 8).all fun i => tabI (Ly.run env.bare 60000 [] (Ly.start Try.f9 [.int .u8 (((120 + i) : Nat) : Int)] H0)).val? (usesT (((120 + i) : Nat) : Int))) = true := by kernel_rfl
theorem tab9_16 : ((List.range 8).all fun i => tabI (Ly.run env.bare 60000 [] (Ly.start Try.f9 [.int .u8 (((128 + i) : Nat) : Int)] H0)).val? (usesT (((128 + i) : Nat) : Int))) = true := by kernel_rfl
theorem tab9_17 : ((List.range 8).all fun i => tabI (Ly.run env.bare 60000 [] (Ly.start Try.f9 [.int .u8 (((136 + i) : Nat) : Int)] H0)).val? (usesT (((136 + i) : Nat) : Int))) = true := by kernel_rfl
theorem tab9_18 : ((List.range 8).all fun i => tabI (Ly.run env.bare 60000 [] (Ly.start Try.f9 [.int .u8 (((144 + i) : Nat) : Int)] H0)).val? (usesT (((144 + i) : Nat) : Int))) = true := by kernel_rfl
theorem tab9_19 : ((List.range 8).all fun i => tabI (Ly.run env.bare 60000 [] (Ly.start Try.f9 [.int .u8 (((152 + i) : Nat) : Int)] H0)).val? (usesT (((152 + i) : Nat) : Int))) = true := by kernel_rfl
theorem tab9_20 : ((List.range 8).all fun i => tabI (Ly.run env.bare 60000 [] (Ly.start Try.f9 [.int .u8 (((160 + i) : Nat) : Int)] H0)).val? (usesT (((160 + i) : Nat) : Int))) = true := by kernel_rfl
theorem tab9_21 : ((List.range 8).all fun i => tabI (Ly.run env.bare 60000 [] (Ly.start Try.f9 [.int .u8 (((168 + i) : Nat) : Int)] H0)).val? (usesT (((168 + i) : Nat) : Int))) = true := by kernel_rfl
theorem tab9_22 : ((List.range 8).all fun i => tabI (Ly.run env.bare 60000 [] (Ly.start Try.f9 [.int .u8 (((176 + i) : Nat) : Int)] H0)).val? (usesT (((176 + i) : Nat) : Int))) = true := by kernel_rfl
theorem tab9_23 : ((List.range 8).all fun i => tabI (Ly.run env.bare 60000 [] (Ly.start Try.f9 [.int .u8 (((184 + i) : Nat) : Int)] H0)).val? (usesT (((184 + i) : Nat) : Int))) = true := by kernel_rfl
theorem tab9_24 : ((List.range 8).all fun i => tabI (Ly.run env.bare 60000 [] (Ly.start Try.f9 [.int .u8 (((192 + i) : Nat) : Int)] H0)).val? (usesT (((192 + i) : Nat) : Int))) = true := by kernel_rfl
theorem tab9_25 : ((List.range 8).all fun i => tabI (Ly.run env.bare 60000 [] (Ly.start Try.f9 [.int .u8 (((200 + i) : Nat) : Int)] H0)).val? (usesT (((200 + i) : Nat) : Int))) = true := by kernel_rfl
theorem tab9_26 : ((List.range 8).all fun i => tabI (Ly.run env.bare 60000 [] (Ly.start Try.f9 [.int .u8 (((208 + i) : Nat) : Int)] H0)).val? (usesT (((208 + i) : Nat) : Int))) = true := by kernel_rfl
theorem tab9_27 : ((List.range 8).all fun i => tabI (Ly.run env.bare 60000 [] (Ly.start Try.f9 [.int .u8 (((216 + i) : Nat) : Int)] H0)).val? (usesT (((216 + i) : Nat) : Int))) = true := by kernel_rfl
theorem tab9_28 : ((List.range 8).all fun i => tabI (Ly.run env.bare 60000 [] (Ly.start Try.f9 [.int .u8 (((224 + i) : Nat) : Int)] H0)).val? (usesT (((224 + i) : Nat) : Int))) = true := by kernel_rfl
theorem tab9_29 : ((List.range 8).all fun i => tabI (Ly.run env.bare 60000 [] (Ly.start Try.f9 [.int .u8 (((232 + i) : Nat) : Int)] H0)).val? (usesT (((232 + i) : Nat) : Int))) = true := by kernel_rfl
theorem tab9_30 : ((List.range 8).all fun i => tabI (Ly.run env.bare 60000 [] (Ly.start Try.f9 [.int .u8 (((240 + i) : Nat) : Int)] H0)).val? (usesT (((240 + i) : Nat) : Int))) = true := by kernel_rfl
theorem tab9_31 : ((List.range 8).all fun i => tabI (Ly.run env.bare 60000 [] (Ly.start Try.f9 [.int .u8 (((248 + i) : Nat) : Int)] H0)).val? (usesT (((248 + i) : Nat) : Int))) = true := by kernel_rfl
end Go.Proofs.Ytdjmpilegommlaa
namespace Go.Proofs.Ytdjmpilegommlaa
open Go Go.Ly Go.RowKit
theorem tab11_0 : ((List.range 8).all fun i => tabI (Ly.run env.bare 60000 [] (Ly.start Try.f11 [.int .u8 (((0 + i) : Nat) : Int)] H0)).val? (setsT (((0 + i) : Nat) : Int))) = true := by kernel_rfl
theorem tab11_1 : ((List.range 8).all fun i => tabI (Ly.run env.bare 60000 [] (Ly.start Try.f11 [.int .u8 (((8 + i) : Nat) : Int)] H0)).val? (setsT (((8 + i) : Nat) : Int))) = true := by kernel_rfl
theorem tab11_2 : ((List.range 8).all fun i => tabI (Ly.run env.bare 60000 [] (Ly.start Try.f11 [.int .u8 (((16 + i) : Nat) : Int)] H0)).val? (setsT (((16 + i) : Nat) : Int))) = true := by kernel_rfl
theorem tab11_3 : ((List.range 8).all fun i => tabI (Ly.run env.bare 60000 [] (Ly.start Try.f11 [.int .u8 (((24 + i) : Nat) : Int)] H0)).val? (setsT (((24 + i) : Nat) : Int))) = true := by kernel_rfl
theorem tab11_4 : ((List.range 8).all fun i => tabI (Ly.run env.bare 60000 [] (Ly.start Try.f11 [.int .u8 (((32 + i) : Nat) : Int)] H0)).val? (setsT (((32 + i) : Nat) : Int))) = true := by kernel_rfl
theorem tab11_5 : ((List.range 8).all fun i => tabI (Ly.run env.bare 60000 [] (Ly.start Try.f11 [.int .u8 (((40 + i) : Nat) : Int)] H0)).val? (setsT (((40 + i) : Nat) : Int))) = true := by kernel_rfl
theorem tab11_6 : ((List.range 8).all fun i => tabI (Ly.run env.bare 60000 [] (Ly.start Try.f11 [.int .u8 (((48 + i) : Nat) : Int)] H0)).val? (setsT (((48 + i) : Nat) : Int))) = true := by kernel_rfl
theorem tab11_7 : ((List.range 8).all fun i => tabI (Ly.run env.bare 60000 [] (Ly.start Try.f11 [.int .u8 (((56 + i) : Nat) : Int)] H0)).val? (setsT (((56 + i) : Nat) : Int))) = true := by kernel_rfl
theorem tab11_8 : ((List.range 8).all fun i => tabI (Ly.run env.bare 60000 [] (Ly.start Try.f11 [.int .u8 (((64 + i) : Nat) : Int)] H0)).val? (setsT (((64 + i) : Nat) : Int))) = true := by kernel_rfl
theorem tab11_9 : ((List.range 8).all fun i => tabI (Ly.run env.bare 60000 [] (Ly.start Try.f11 [.int .u8 (((72 + i) : Nat) : Int)] H0)).val? (setsT (((72 + i) : Nat) : Int))) = true := by kernel_rfl
theorem tab11_10 : ((List.range 8).all fun i => tabI (Ly.run env.bare 60000 [] (Ly.start Try.f11 [.int .u8 (((80 + i) : Nat) : Int)] H0)).val? (setsT (((80 + i) : Nat) : Int))) = true := by kernel_rfl
theorem tab11_11 : ((List.range 8).all fun i => tabI (Ly.run env.bare 60000 [] (Ly.start Try.f11 [.int .u8 (((88 + i) : Nat) : Int)] H0)).val? (setsT (((88 + i) : Nat) : Int))) = true := by kernel_rfl
theorem tab11_12 : ((List.range 8).all fun i => tabI (Ly.run env.bare 60000 [] (Ly.start Try.f11 [.int .u8 (((96 + i) : Nat) : Int)] H0)).val? (setsT (((96 + i) : Nat) : Int))) = true := by kernel_rfl
theorem tab11_13 : ((List.range 8).all fun i => tabI (Ly.run env.bare 60000 [] (Ly.start Try.f11 [.int .u8 (((104 + i) : Nat) : Int)] H0)).val? (setsT (((104 + i) : Nat) : Int))) = true := by kernel_rfl
theorem tab11_14 : ((List.range 8).all fun i => tabI (Ly.run env.bare 60000 [] (Ly.start Try.f11 [.int .u8 (((112 + i) : Nat) : Int)] H0)).val? (setsT (((112 + i) : Nat) : Int))) = true := by kernel_rfl
theorem tab11_15 : ((List.range 8).all fun i => tabI (Ly.run env.bare 60000 [] (Ly.start Try.f11 [.int .u8 (((120 + i) : Nat) : Int)] H0)).val? (setsT (((120 + i) : Nat) : Int))) = true := by kernel_rfl
theorem tab11_16 : ((List.range 8).all fun i => tabI (Ly.run env.bare 60000 [] (Ly.start Try.f11 [.int .u8 (((128 + i) : Nat) : Int)] H0)).val? (setsT (((128 + i) : Nat) : Int))) = true := by kernel_rfl
theorem tab11_17 : ((List.range 8).all fun i => tabI (Ly.run env.bare 60000 [] (Ly.start Try.f11 [.int .u8 (((136 + i) : Nat) : Int)] H0)).val? (setsT (((136 + i) : Nat) : Int))) = true := by kernel_rfl
theorem tab11_18 : ((List.range 8).all fun i => tabI (Ly.run env.bare 60000 [] (Ly.start Try.f11 [.int .u8 (((144 + i) : Nat) : Int)] H0)).val? (setsT (((144 + i) : Nat) : Int))) = true := by kernel_rfl
theorem tab11_19 : ((List.range 8).all fun i => tabI (Ly.run env.bare 60000 [] (Ly.start Try.f11 [.int .u8 (((152 + i) : Nat) : Int)] H0)).val? (setsT (((152 + i) : Nat) : Int))) = true := by kernel_rfl
theorem tab11_20 : ((List.range 8).all fun i => tabI (Ly.run env.bare 60000 [] (Ly.start Try.f11 [.int .u8 (((160 + i) : Nat) : Int)] H0)).val? (setsT (((160 + i) : Nat) : Int))) = true := by kernel_rfl
theorem tab11_21 : ((List.range 8).all fun i => tabI (Ly.run env.bare 60000 [] (Ly.start Try.f11 [.int .u8 (((168 + i) : Nat) : Int)] H0)).val? (setsT (((168 + i) : Nat) : Int))) = true := by kernel_rfl
theorem tab11_22 : ((List.range 8).all fun i => tabI (Ly.run env.bare 60000 [] (Ly.start Try.f11 [.int .u8 (((176 + i) : Nat) : Int)] H0)).val? (setsT (((176 + i) : Nat) : Int))) = true := by kernel_rfl
theorem tab11_23 : ((List.range 8).all fun i => tabI (Ly.run env.bare 60000 [] (Ly.start Try.f11 [.int .u8 (((184 + i) : Nat) : Int)] H0)).val? (setsT (((184 + i) : Nat) : Int))) = true := by kernel_rfl
theorem tab11_24 : ((List.range 8).all fun i => tabI (Ly.run env.bare 60000 [] (Ly.start Try.f11 [.int .u8 (((192 + i) : Nat) : Int)] H0)).val? (setsT (((192 + i) : Nat) : Int))) = true := by kernel_rfl
theorem tab11_25 : ((List.range 8).all fun i => tabI (Ly.run env.bare 60000 [] (Ly.start Try.f11 [.int .u8 (((200 + i) : Nat) : Int)] H0)).val? (setsT (((200 + i) : Nat) : Int))) = true := by kernel_rfl
theorem tab11_26 : ((List.range 8).all fun i => tabI (Ly.run env.bare 60000 [] (Ly.start Try.f11 [.int .u8 (((208 + i) : Nat) : Int)] H0)).val? (setsT (((208 + i) : Nat) : Int))) = true := by kernel_rfl
theorem tab11_27 : ((List.range 8).all fun i => tabI (Ly.run env.bare 60000 [] (Ly.start Try.f11 [.int .u8 (((216 + i) : Nat) : Int)] H0)).val? (setsT (((216 + i) : Nat) : Int))) = true := by kernel_rfl
theorem tab11_28 : ((List.range 8).all fun i => tabI (Ly.run env.bare 60000 [] (Ly.start Try.f11 [.int .u8 (((224 + i) : Nat) : Int)] H0)).val? (setsT (((224 + i) : Nat) : Int))) = true := by kernel_rfl
theorem tab11_29 : ((List.range 8).all fun i => tabI (Ly.run env.bare 60000 [] (Ly.start Try.f11 [.int .u8 (((232 + i) : Nat) : Int)] H0)).val? (setsT (((232 + i) : Nat) : Int))) = true := by kernel_rfl
theorem tab11_30 : ((List.range 8).all fun i => tabI (Ly.run env.bare 60000 [] (Ly.start Try.f11 [.int .u8 (((240 + i) : Nat) : Int)] H0)).val? (setsT (((240 + i) : Nat) : Int))) = true := by kernel_rfl
theorem tab11_31 : ((List.range 8).all fun i => tabI (Ly.run env.bare 60000 [] (Ly.start Try.f11 [.int .u8 (((248 + i) : Nat) : Int)] H0)).val? (setsT (((248 + i) : Nat) : Int))) = true := by kernel_rfl
end Go.Proofs.Ytdjmpilegommlaa
namespace Go.Proofs.Ytdjmpilegommlaa
open Go Go.Ly Go.RowKit
theorem tab9_all (n : Nat) (h : n < 256) : tabI (Ly.run env.bare 60000 [] (Ly.start Try.f9 [.int .u8 ((n : Nat) : Int)] H0)).val? (usesT ((n : Nat) : Int)) = true := by
  rcases Nat.lt_or_ge n 8 with g0 | g0
  · exact range_all (p := fun n => tabI (Ly.run env.bare 60000 [] (Ly.start Try.f9 [.int .u8 ((n : Nat) : Int)] H0)).val? (usesT ((n : Nat) : Int))) tab9_0 n (by omega) (by omega)
  rcases Nat.lt_or_ge n 16 with g1 | g1
  · exact range_all (p := fun n => tabI (Ly.run env.bare 60000 [] (Ly.start Try.f9 [.int .u8 ((n : Nat) : Int)] H0)).val? (usesT ((n : Nat) : Int))) tab9_1 n (by omega) (by omega)
  rcases Nat.lt_or_ge n 24 with g2 | g2
  · exact range_all (p := fun n => tabI (Ly.run env.bare 60000 [] (Ly.start Try.f9 [.int .u8 ((n : Nat) : Int)] H0)).val? (usesT ((n : Nat) : Int))) tab9_2 n (by omega) (by omega)
  rcases Nat.lt_or_ge n 32 with g3 | g3
  · exact range_all (p := fun n => tabI (Ly.run env.bare 60000 [] (Ly.start Try.f9 [.int .u8 ((n : Nat) : Int)] H0)).val? (usesT ((n : Nat) : Int))) tab9_3 n (by omega) (by omega)
  rcases Nat.lt_or_ge n 40 with g4 | g4
  · exact range_all (p := fun n => tabI (Ly.run env.bare 60000 [] (Ly.start Try.f9 [.int .u8 ((n : Nat) : Int)] H0)).val? (usesT ((n : Nat) : Int))) tab9_4 n (by omega) (by omega)
  rcases Nat.lt_or_ge n 48 with g5 | g5
  · exact range_all (p := fun n => tabI (Ly.run env.bare 60000 [] (Ly.start Try.f9 [.int .u8 ((n : Nat) : Int)] H0)).val? (usesT ((n : Nat) : Int))) tab9_5 n (by omega) (by omega)
  rcases Nat.lt_or_ge n 56 with g6 | g6
  · exact range_all (p := fun n => tabI (Ly.run env.bare 60000 [] (Ly.start Try.f9 [.int .u8 ((n : Nat) : Int)] H0)).val? (usesT ((n : Nat) : Int))) tab9_6 n (by omega) (by omega)
  rcases Nat.lt_or_ge n 64 with g7 | g7
  · exact range_all (p := fun n => tabI (Ly.run env.bare 60000 [] (Ly.start Try.f9 [.int .u8 ((n : Nat) : Int)] H0)).val? (usesT ((n : Nat) : Int))) tab9_7 n (by omega) (by omega)
  rcases Nat.lt_or_ge n 72 with g8 | g8
  · exact range_all (p := fun n => tabI (Ly.run env.bare 60000 [] (Ly.start Try.f9 [.int .u8 ((n : Nat) : Int)] H0)).val? (usesT ((n : Nat) : Int))) tab9_8 n (by omega) (by omega)
  rcases Nat.lt_or_ge n 80 with g9 | g9
  · exact range_all (p := fun n => tabI (Ly.run env.bare 60000 [] (Ly.start Try.f9 [.int .u8 ((n : Nat) : Int)] H0)).val? (usesT ((n : Nat) : Int))) tab9_9 n (by omega) (by omega)
  rcases Nat.lt_or_ge n 88 with g10 | g10
  · exact range_all (p := fun n => tabI (Ly.run env.bare 60000 [] (Ly.start Try.f9 [.int .u8 ((n : Nat) : Int)] H0)).val? (usesT ((n : Nat) : Int))) tab9_10 n (by omega) (by omega)
  rcases Nat.lt_or_ge n 96 with g11 | g11
  · exact range_all (p := fun n => tabI (Ly.run env.bare 60000 [] (Ly.start Try.f9 [.int .u8 ((n : Nat) : Int)] H0)).val? (usesT ((n : Nat) : Int))) tab9_11 n (by omega) (by omega)
  rcases Nat.lt_or_ge n 104 with g12 | g12
  · exact range_all (p := fun n => tabI (Ly.run env.bare 60000 [] (Ly.start Try.f9 [.int .u8 ((n : Nat) : Int)] H0)).val? (usesT ((n : Nat) : Int))) tab9_12 n (by omega) (by omega)
  rcases Nat.lt_or_ge n 112 with g13 | g13
  · exact range_all (p := fun n => tabI (Ly.run env.bare 60000 [] (Ly.start Try.f9 [.int .u8 ((n : Nat) : Int)] H0)).val? (usesT ((n : Nat) : Int))) tab9_13 n (by omega) (by omega)
  rcases Nat.lt_or_ge n 120 with g14 | g14
  · exact range_all (p := fun n => tabI (Ly.run env.bare 60000 [] (Ly.start Try.f9 [.int .u8 ((n : Nat) : Int)] H0)).val? (usesT ((n : Nat) : Int))) tab9_14 n (by omega) (by omega)
  rcases Nat.lt_or_ge n 128 with g15 | g15
  · exact range_all (p := fun n => tabI (Ly.run env.bare 60000 [] (Ly.start Try.f9 [.int .u8 ((n : Nat) : Int)] H0)).val? (usesT ((n : Nat) : Int))) tab9_15 n (by omega) (by omega)
  rcases Nat.lt_or_ge n 136 with g16 | g16
  · exact range_all (p := fun n => tabI (Ly.run env.bare 60000 [] (Ly.start Try.f9 [.int .u8 ((n : Nat) : Int)] H0)).val? (usesT ((n : Nat) : Int))) tab9_16 n (by omega) (by omega)
  rcases Nat.lt_or_ge n 144 with g17 | g17
  · exact range_all (p := fun n => tabI (Ly.run env.bare 60000 [] (Ly.start Try.f9 [.int .u8 ((n : Nat) : Int)] H0)).val? (usesT ((n : Nat) : Int))) tab9_17 n (by omega) (by omega)
  rcases Nat.lt_or_ge n 152 with g18 | g18
  · exact range_all (p := fun n => tabI (Ly.run env.bare 60000 [] (Ly.start Try.f9 [.int .u8 ((n : Nat) : Int)] H0)).val? (usesT ((n : Nat) : Int))) tab9_18 n (by omega) (by omega)
  rcases Nat.lt_or_ge n 160 with g19 | g19
  · exact range_all (p := fun n => tabI (Ly.run env.bare 60000 [] (Ly.start Try.f9 [.int .u8 ((n : Nat) : Int)] H0)).val? (usesT ((n : Nat) : Int))) tab9_19 n (by omega) (by omega)
  rcases Nat.lt_or_ge n 168 with g20 | g20
  · exact range_all (p := fun n => tabI (Ly.run env.bare 60000 [] (Ly.start Try.f9 [.int .u8 ((n : Nat) : Int)] H0)).val? (usesT ((n : Nat) : Int))) tab9_20 n (by omega) (by omega)
  rcases Nat.lt_or_ge n 176 with g21 | g21
  · exact range_all (p := fun n => tabI (Ly.run env.bare 60000 [] (Ly.start Try.f9 [.int .u8 ((n : Nat) : Int)] H0)).val? (usesT ((n : Nat) : Int))) tab9_21 n (by omega) (by omega)
  rcases Nat.lt_or_ge n 184 with g22 | g22
  · exact range_all (p := fun n => tabI (Ly.run env.bare 60000 [] (Ly.start Try.f9 [.int .u8 ((n : Nat) : Int)] H0)).val? (usesT ((n : Nat) : Int))) tab9_22 n (by omega) (by omega)
  rcases Nat.lt_or_ge n 192 with g23 | g23
  · exact range_all (p := fun n => tabI (Ly.run env.bare 60000 [] (Ly.start Try.f9 [.int .u8 ((n : Nat) : Int)] H0)).val? (usesT ((n : Nat) : Int))) tab9_23 n (by omega) (by omega)
  rcases Nat.lt_or_ge n 200 with g24 | g24
  · exact range_all (p := fun n => tabI (Ly.run env.bare 60000 [] (Ly.start Try.f9 [.int .u8 ((n : Nat) : Int)] H0)).val? (usesT ((n : Nat) : Int))) tab9_24 n (by omega) (by omega)
  rcases Nat.lt_or_ge n 208 with g25 | g25
  · exact range_all (p := fun n => tabI (Ly.run env.bare 60000 [] (Ly.start Try.f9 [.int .u8 ((n : Nat) : Int)] H0)).val? (usesT ((n : Nat) : Int))) tab9_25 n (by omega) (by omega)
  rcases Nat.lt_or_ge n 216 with g26 | g26
  · exact range_all (p := fun n => tabI (Ly.run env.bare 60000 [] (Ly.start Try.f9 [.int .u8 ((n : Nat) : Int)] H0)).val? (usesT ((n : Nat) : Int))) tab9_26 n (by omega) (by omega)
  rcases Nat.lt_or_ge n 224 with g27 | g27
  · exact range_all (p := fun n => tabI (Ly.run env.bare 60000 [] (Ly.start Try.f9 [.int .u8 ((n : Nat) : Int)] H0)).val? (usesT ((n : Nat) : Int))) tab9_27 n (by omega) (by omega)
  rcases Nat.lt_or_ge n 232 with g28 | g28
  · exact range_all (p := fun n => tabI (Ly.run env.bare 60000 [] (Ly.start Try.f9 [.int .u8 ((n : Nat) : Int)] H0)).val? (usesT ((n : Nat) : Int))) tab9_28 n (by omega) (by omega)
  rcases Nat.lt_or_ge n 240 with g29 | g29
  · exact range_all (p := fun n => tabI (Ly.run env.bare 60000 [] (Ly.start Try.f9 [.int .u8 ((n : Nat) : Int)] H0)).val? (usesT ((n : Nat) : Int))) tab9_29 n (by omega) (by omega)
  rcases Nat.lt_or_ge n 248 with g30 | g30
  · exact range_all (p := fun n => tabI (Ly.run env.bare 60000 [] (Ly.start Try.f9 [.int .u8 ((n : Nat) : Int)] H0)).val? (usesT ((n : Nat) : Int))) tab9_30 n (by omega) (by omega)
  rcases Nat.lt_or_ge n 256 with g31 | g31
  · exact range_all (p := fun n => tabI (Ly.run env.bare 60000 [] (Ly.start Try.f9 [.int .u8 ((n : Nat) : Int)] H0)).val? (usesT ((n : Nat) : Int))) tab9_31 n (by omega) (by omega)
  omega
theorem tab9_get : env.bare.fn.get 9 = some Try.f9 := by kernel_rfl
theorem tab9_ans : Answers Try.prog 9 (tabC usesT) := tab_ans tab9_get (by kernel_rfl) (fun n h => tab9_all n h)
theorem tab11_all (n : Nat) (h : n < 256) : tabI (Ly.run env.bare 60000 [] (Ly.start Try.f11 [.int .u8 ((n : Nat) : Int)] H0)).val? (setsT ((n : Nat) : Int)) = true := by
  rcases Nat.lt_or_ge n 8 with g0 | g0
  · exact range_all (p := fun n => tabI (Ly.run env.bare 60000 [] (Ly.start Try.f11 [.int .u8 ((n : Nat) : Int)] H0)).val? (setsT ((n : Nat) : Int))) tab11_0 n (by omega) (by omega)
  rcases Nat.lt_or_ge n 16 with g1 | g1
  · exact range_all (p := fun n => tabI (Ly.run env.bare 60000 [] (Ly.start Try.f11 [.int .u8 ((n : Nat) : Int)] H0)).val? (setsT ((n : Nat) : Int))) tab11_1 n (by omega) (by omega)
  rcases Nat.lt_or_ge n 24 with g2 | g2
  · exact range_all (p := fun n => tabI (Ly.run env.bare 60000 [] (Ly.start Try.f11 [.int .u8 ((n : Nat) : Int)] H0)).val? (setsT ((n : Nat) : Int))) tab11_2 n (by omega) (by omega)
  rcases Nat.lt_or_ge n 32 with g3 | g3
  · exact range_all (p := fun n => tabI (Ly.run env.bare 60000 [] (Ly.start Try.f11 [.int .u8 ((n : Nat) : Int)] H0)).val? (setsT ((n : Nat) : Int))) tab11_3 n (by omega) (by omega)
  rcases Nat.lt_or_ge n 40 with g4 | g4
  · exact range_all (p := fun n => tabI (Ly.run env.bare 60000 [] (Ly.start Try.f11 [.int .u8 ((n : Nat) : Int)] H0)).val? (setsT ((n : Nat) : Int))) tab11_4 n (by omega) (by omega)
  rcases Nat.lt_or_ge n 48 with g5 | g5
  · exact range_all (p := fun n => tabI (Ly.run env.bare 60000 [] (Ly.start Try.f11 [.int .u8 ((n : Nat) : Int)] H0)).val? (setsT ((n : Nat) : Int))) tab11_5 n (by omega) (by omega)
  rcases Nat.lt_or_ge n 56 with g6 | g6
  · exact range_all (p := fun n => tabI (Ly.run env.bare 60000 [] (Ly.start Try.f11 [.int .u8 ((n : Nat) : Int)] H0)).val? (setsT ((n : Nat) : Int))) tab11_6 n (by omega) (by omega)
  rcases Nat.lt_or_ge n 64 with g7 | g7
  · exact range_all (p := fun n => tabI (Ly.run env.bare 60000 [] (Ly.start Try.f11 [.int .u8 ((n : Nat) : Int)] H0)).val? (setsT ((n : Nat) : Int))) tab11_7 n (by omega) (by omega)
  rcases Nat.lt_or_ge n 72 with g8 | g8
  · exact range_all (p := fun n => tabI (Ly.run env.bare 60000 [] (Ly.start Try.f11 [.int .u8 ((n : Nat) : Int)] H0)).val? (setsT ((n : Nat) : Int))) tab11_8 n (by omega) (by omega)
  rcases Nat.lt_or_ge n 80 with g9 | g9
  · exact range_all (p := fun n => tabI (Ly.run env.bare 60000 [] (Ly.start Try.f11 [.int .u8 ((n : Nat) : Int)] H0)).val? (setsT ((n : Nat) : Int))) tab11_9 n (by omega) (by omega)
  rcases Nat.lt_or_ge n 88 with g10 | g10
  · exact range_all (p := fun n => tabI (Ly.run env.bare 60000 [] (Ly.start Try.f11 [.int .u8 ((n : Nat) : Int)] H0)).val? (setsT ((n : Nat) : Int))) tab11_10 n (by omega) (by omega)
  rcases Nat.lt_or_ge n 96 with g11 | g11
  · exact range_all (p := fun n => tabI (Ly.run env.bare 60000 [] (Ly.start Try.f11 [.int .u8 ((n : Nat) : Int)] H0)).val? (setsT ((n : Nat) : Int))) tab11_11 n (by omega) (by omega)
  rcases Nat.lt_or_ge n 104 with g12 | g12
  · exact range_all (p := fun n => tabI (Ly.run env.bare 60000 [] (Ly.start Try.f11 [.int .u8 ((n : Nat) : Int)] H0)).val? (setsT ((n : Nat) : Int))) tab11_12 n (by omega) (by omega)
  rcases Nat.lt_or_ge n 112 with g13 | g13
  · exact range_all (p := fun n => tabI (Ly.run env.bare 60000 [] (Ly.start Try.f11 [.int .u8 ((n : Nat) : Int)] H0)).val? (setsT ((n : Nat) : Int))) tab11_13 n (by omega) (by omega)
  rcases Nat.lt_or_ge n 120 with g14 | g14
  · exact range_all (p := fun n => tabI (Ly.run env.bare 60000 [] (Ly.start Try.f11 [.int .u8 ((n : Nat) : Int)] H0)).val? (setsT ((n : Nat) : Int))) tab11_14 n (by omega) (by omega)
  rcases Nat.lt_or_ge n 128 with g15 | g15
  · exact range_all (p := fun n => tabI (Ly.run env.bare 60000 [] (Ly.start Try.f11 [.int .u8 ((n : Nat) : Int)] H0)).val? (setsT ((n : Nat) : Int))) tab11_15 n (by omega) (by omega)
  rcases Nat.lt_or_ge n 136 with g16 | g16
  · exact range_all (p := fun n => tabI (Ly.run env.bare 60000 [] (Ly.start Try.f11 [.int .u8 ((n : Nat) : Int)] H0)).val? (setsT ((n : Nat) : Int))) tab11_16 n (by omega) (by omega)
  rcases Nat.lt_or_ge n 144 with g17 | g17
  · exact range_all (p := fun n => tabI (Ly.run env.bare 60000 [] (Ly.start Try.f11 [.int .u8 ((n : Nat) : Int)] H0)).val? (setsT ((n : Nat) : Int))) tab11_17 n (by omega) (by omega)
  rcases Nat.lt_or_ge n 152 with g18 | g18
  · exact range_all (p := fun n => tabI (Ly.run env.bare 60000 [] (Ly.start Try.f11 [.int .u8 ((n : Nat) : Int)] H0)).val? (setsT ((n : Nat) : Int))) tab11_18 n (by omega) (by omega)
  rcases Nat.lt_or_ge n 160 with g19 | g19
  · exact range_all (p := fun n => tabI (Ly.run env.bare 60000 [] (Ly.start Try.f11 [.int .u8 ((n : Nat) : Int)] H0)).val? (setsT ((n : Nat) : Int))) tab11_19 n (by omega) (by omega)
  rcases Nat.lt_or_ge n 168 with g20 | g20
  · exact range_all (p := fun n => tabI (Ly.run env.bare 60000 [] (Ly.start Try.f11 [.int .u8 ((n : Nat) : Int)] H0)).val? (setsT ((n : Nat) : Int))) tab11_20 n (by omega) (by omega)
  rcases Nat.lt_or_ge n 176 with g21 | g21
  · exact range_all (p := fun n => tabI (Ly.run env.bare 60000 [] (Ly.start Try.f11 [.int .u8 ((n : Nat) : Int)] H0)).val? (setsT ((n : Nat) : Int))) tab11_21 n (by omega) (by omega)
  rcases Nat.lt_or_ge n 184 with g22 | g22
  · exact range_all (p := fun n => tabI (Ly.run env.bare 60000 [] (Ly.start Try.f11 [.int .u8 ((n : Nat) : Int)] H0)).val? (setsT ((n : Nat) : Int))) tab11_22 n (by omega) (by omega)
  rcases Nat.lt_or_ge n 192 with g23 | g23
  · exact range_all (p := fun n => tabI (Ly.run env.bare 60000 [] (Ly.start Try.f11 [.int .u8 ((n : Nat) : Int)] H0)).val? (setsT ((n : Nat) : Int))) tab11_23 n (by omega) (by omega)
  rcases Nat.lt_or_ge n 200 with g24 | g24
  · exact range_all (p := fun n => tabI (Ly.run env.bare 60000 [] (Ly.start Try.f11 [.int .u8 ((n : Nat) : Int)] H0)).val? (setsT ((n : Nat) : Int))) tab11_24 n (by omega) (by omega)
  rcases Nat.lt_or_ge n 208 with g25 | g25
  · exact range_all (p := fun n => tabI (Ly.run env.bare 60000 [] (Ly.start Try.f11 [.int .u8 ((n : Nat) : Int)] H0)).val? (setsT ((n : Nat) : Int))) tab11_25 n (by omega) (by omega)
  rcases Nat.lt_or_ge n 216 with g26 | g26
  · exact range_all (p := fun n => tabI (Ly.run env.bare 60000 [] (Ly.start Try.f11 [.int .u8 ((n : Nat) : Int)] H0)).val? (setsT ((n : Nat) : Int))) tab11_26 n (by omega) (by omega)
  rcases Nat.lt_or_ge n 224 with g27 | g27
  · exact range_all (p := fun n => tabI (Ly.run env.bare 60000 [] (Ly.start Try.f11 [.int .u8 ((n : Nat) : Int)] H0)).val? (setsT ((n : Nat) : Int))) tab11_27 n (by omega) (by omega)
  rcases Nat.lt_or_ge n 232 with g28 | g28
  · exact range_all (p := fun n => tabI (Ly.run env.bare 60000 [] (Ly.start Try.f11 [.int .u8 ((n : Nat) : Int)] H0)).val? (setsT ((n : Nat) : Int))) tab11_28 n (by omega) (by omega)
  rcases Nat.lt_or_ge n 240 with g29 | g29
  · exact range_all (p := fun n => tabI (Ly.run env.bare 60000 [] (Ly.start Try.f11 [.int .u8 ((n : Nat) : Int)] H0)).val? (setsT ((n : Nat) : Int))) tab11_29 n (by omega) (by omega)
  rcases Nat.lt_or_ge n 248 with g30 | g30
  · exact range_all (p := fun n => tabI (Ly.run env.bare 60000 [] (Ly.start Try.f11 [.int .u8 ((n : Nat) : Int)] H0)).val? (setsT ((n : Nat) : Int))) tab11_30 n (by omega) (by omega)
  rcases Nat.lt_or_ge n 256 with g31 | g31
  · exact range_all (p := fun n => tabI (Ly.run env.bare 60000 [] (Ly.start Try.f11 [.int .u8 ((n : Nat) : Int)] H0)).val? (setsT ((n : Nat) : Int))) tab11_31 n (by omega) (by omega)
  omega
theorem tab11_get : env.bare.fn.get 11 = some Try.f11 := by kernel_rfl
theorem tab11_ans : Answers Try.prog 11 (tabC setsT) := tab_ans tab11_get (by kernel_rfl) (fun n h => tab11_all n h)
end Go.Proofs.Ytdjmpilegommlaa
namespace Go.Proofs.Ytdjmpilegommlaa
open Go Go.Ly Go.RowKit
def ctx1 : Ctx := env.bare.withC 20 (conTree env.bare 3000 20) |>.withC 26 (conTree env.bare 300 26) |>.withC 37 (conTree env.bare 600 37) |>.withC 33 (conTree env.bare 300 33)
theorem ctx1_ok : ctx1.Ok Try.prog := ((((Env.bare_ok envOk).byCon (Env.bare_ok envOk) 3000 20).byCon (Env.bare_ok envOk) 300 26).byCon (Env.bare_ok envOk) 600 37).byCon (Env.bare_ok envOk) 300 33
def ctx2 : Ctx := ctx1.withC 9 (conTree ctx1 3000 9) |>.withC 11 (conTree ctx1 3000 11) |>.withC 38 (conTree ctx1 600 38) |>.withC 39 (conTree ctx1 600 39) |>.withC 57 (conTree ctx1 6000 57) |>.withH 41 (hconTree ctx1 600 41)
theorem ctx2_ok : ctx2.Ok Try.prog := (((((ctx1_ok.byCon ctx1_ok 3000 9).byCon ctx1_ok 3000 11).byCon ctx1_ok 600 38).byCon ctx1_ok 600 39).byCon ctx1_ok 6000 57).byRun ctx1_ok 600 41
end Go.Proofs.Ytdjmpilegommlaa
namespace Go.Proofs.Ytdjmpilegommlaa
open Go Go.Ly Go.RowKit
theorem getAl13 : ctx2.fn.get 13 = some Try.f13 := by kernel_rfl
set_option maxRecDepth 100000 in
theorem run13 : (Ly.run ctx2 100000 [] (Ly.start Try.f13 [] H0)).out? = some ([], .bool true) := by kernel_rfl
def aliveC (l : List Value) : Option (Bool × Value) := match l with
  | [] => some (true, .bool true)
  | _ => none
theorem alive_ans : Answers Try.prog 13 aliveC := by
  intro args g v h hg
  unfold aliveC at h
  split at h
  · simp only [Option.some.injEq, Prod.mk.injEq] at h
    obtain ⟨rfl, rfl⟩ := h
    exact ⟨by simp [plainL], by simp [plain], fun w => calls_trust ctx2_ok 100000 [] getAl13 (by kernel_rfl) (by simp [plainL]) (by simp [plain]) run13 trivial w⟩
  · cases h
end Go.Proofs.Ytdjmpilegommlaa
namespace Go.Proofs.Ytdjmpilegommlaa
open Go Go.Ly Go.RowKit
def mkF (s z x p c : Bool) : Int := cI s + 2 * cI z + 4 * cI x + 8 * cI p + 16 * cI c
def maskC (l : List Value) : Option (Bool × Value) := match l with
  | [.agg ⟨[.bool s, .bool z, .bool x, .bool p, .bool c]⟩] => some (true, .int .i64 (mkF s z x p c))
  | _ => none
theorem gF22 : env.bare.fn.get 22 = some Try.f22 := by kernel_rfl
theorem maskR (s z x p c : Bool) : (Ly.run env.bare 2000 [] (Ly.start Try.f22 [.agg ⟨[.bool s, .bool z, .bool x, .bool p, .bool c]⟩] H0)).out? = some ([], .int .i64 (mkF s z x p c)) := by
  cases s <;> cases z <;> cases x <;> cases p <;> cases c <;> kernel_rfl
theorem mask_ans : Answers Try.prog 22 maskC := by
  intro args g v h hg
  unfold maskC at h
  split at h
  · simp only [Option.some.injEq, Prod.mk.injEq] at h
    obtain ⟨rfl, rfl⟩ := h
    exact ⟨by simp [plain, plainL], by simp [plain], fun w => calls_trust (Env.bare_ok envOk) 2000 [] gF22 (by kernel_rfl) (by simp [plain, plainL]) (by simp [plain]) (maskR _ _ _ _ _) trivial w⟩
  · cases h
def cxM : Ctx := cx0 |>.with 9 (tabC usesT) |>.with 11 (tabC setsT) |>.with 13 aliveC |>.with 22 maskC
theorem cxM_ok : cxM.Ok Try.prog := cx0_ok.with tab9_ans |>.with tab11_ans |>.with alive_ans |>.with mask_ans
def cxN : Ctx := cxM |>.withH 48 (hconTree cxM 300 48) |>.withH 49 (hconTree cxM 300 49)
theorem cxN_ok : cxN.Ok Try.prog := (cxM_ok.byRun cxM_ok 300 48).byRun cxM_ok 300 49
def cxO : Ctx := cxN.withH 24 (hconTree cxN 600 24)
theorem cxO_ok : cxO.Ok Try.prog := cxN_ok.byRun cxN_ok 600 24
def cxP : Ctx := cxO.withH 21 (hconTree cxO 3000 21)
theorem cxP_ok : cxP.Ok Try.prog := cxO_ok.byRun cxO_ok 3000 21
def cxT : Ctx := haltAt cxP 23
theorem cxT_ok : cxT.Ok Try.prog := haltAt_ok cxP_ok 23
end Go.Proofs.Ytdjmpilegommlaa
namespace Go.Proofs.Ytdjmpilegommlaa
open Go Go.Ly Go.RowKit
def mIn (m : Mc) : Mc := { m with pc := w16 (m.pc + 2), r7 := 0 }
def mOu (m : Mc) : Mc := { m with pc := w16 (m.pc + 2) }
def outV : Value := .slice (some ⟨6, 0, some 0⟩) 1 18446744073709551616
theorem inpR (m : Mc) (g : Nat → Int) (b1 b2 : Int) : endsAt [0, 1] (Ly.run cx3 3000 [] (sQ m g 219 b1 b2)) = some ([], .int .i64 0, 5, [some (.cells (cellsP (mIn m) nilS nilS) 53), some (memL g)]) := by kernel_rfl
theorem ouR (m : Mc) (g : Nat → Int) (b1 b2 : Int) : endsAt [0, 1] (Ly.run cx3 3000 [] (sQ m g 211 b1 b2)) = some ([], .int .i64 0, 7, [some (.cells (cellsP (mOu m) nilS outV) 53), some (memL g)]) := by kernel_rfl
theorem endsQ {m : Mc} {g : Nat → Int} {b0 k : Int} {nx : Nat} {os : List (Option LO)} (hm : m.Ok) (hh : m.halt = false) (h0 : g (ix m.pc) = b0)
    (hp : endsAt [0, 1] (Ly.run cx3 3000 [] (sQ m g b0 (g (at1 m.pc 1)) (g (at1 m.pc 2)))) = some ([], .int .i64 k, nx, os)) (hn : nx ≤ 64) : Ly.Ends Try.prog 23 [ptr 0] (hQ m g) [0, 1] (.int .i64 k) 64 os := by
  have e1 := MWp.ends cx3_ok 3000 [] hp trivial
  have e2 : Ly.Ends Try.prog 23 [ptr 0] (hQ m g) [0, 1] (.int .i64 k) nx os := by
    refine LCalls_of cx3_ok gP13 (by kernel_rfl) (MWp.halted (haltAt_ok cx3_ok 43) [0, 53] 300 pathP (juncQ m g) (trP hm hh) ?_)
    have h0' : g (0 + m.pc.toNat * 1) = b0 := h0
    rw [h0']; exact e1
  exact e2.grow hn (by unfold big; omega)
theorem endsQ_q {m m' : Mc} {g : Nat → Int} {k : Int} {ov : Value} (he : Ly.Ends Try.prog 23 [ptr 0] (hQ m g) [0, 1] (.int .i64 k) 64 [some (.cells (cellsP m' nilS ov) 53), some (memL g)])
    (ho : ∀ n, noTok (renV n ov) = true) : StQ m g m' k := by
  intro H p b h1 h2 hpb hl hc hb
  refine LCalls.ltn fun hlt hsm => ?_
  have hnd : [p, b].Nodup := by simp [hpb]
  have hs : Sit H (hQ m g) [p, b] := by
    refine ⟨hl, rfl, hnd, fun i o hi => ?_⟩
    rcases i with _ | _ | i
    · simp only [hQ, List.getElem?_cons_zero, Option.some.injEq] at hi; subst hi
      show H.get p = _
      rw [h1]; rfl
    · simp only [hQ, List.getElem?_cons_succ, List.getElem?_cons_zero, Option.some.injEq] at hi; subst hi
      show H.get b = _
      rw [h2]; rfl
    · simp [hQ] at hi
  have key : LCalls Try.prog 23 [ptr p] H _ := Ends.made (L := [p, b]) he (by rfl) hs hb hc (by
    intro o ho' x hx
    simp only [List.mem_cons, List.not_mem_nil, or_false] at ho'
    rcases ho' with rfl | rfl <;> (simp only [Option.some.injEq] at hx; subst hx)
    · show noTokL (cellsPb b m' nilS (renV _ ov)) = true
      rw [noP, ho]; rfl
    · exact rfl)
  refine key.mono ?_
  rintro u K ⟨rfl, hM⟩
  exact ⟨rfl, hM.lock, hM.clean, by rw [hM.next]; rfl, ⟨_, _, hM.now 0 0 _ rfl rfl⟩, fun i hi hp hb => hM.old i hi (by simp [hp, hb])⟩
def TwQ (v : Int) (m n : Mc) (g : Nat → Int) : Prop := ∃ a b k, StQ m g a k ∧ StQ n g b k ∧ RQ a b ∧ FR v m n a b
theorem twQ {m : Mc} {g : Nat → Int} {s z x p c : Bool} (hm : m.Ok) (hg : ∀ e, B8 (g e)) (hh : m.halt = false) {op : Int} (h0 : g (ix m.pc) = op) (h1 : 0 ≤ op) (h2 : op ≤ 255) (hs : sizeT op ≠ 0) (ha : Agr (usesT op) m s z x p c) :
    TwQ (setsT op) m (setF m s z x p c) g := by
  by_cases hi : op = 219
  · subst hi
    exact ⟨_, _, 0, endsQ_q (endsQ hm hh h0 (inpR m g _ _) (by omega)) (fun n => rfl), endsQ_q (endsQ (m := setF m s z x p c) (setF_ok hm) hh h0 (inpR (setF m s z x p c) g _ _) (by omega)) (fun n => rfl), ⟨rfl, rfl, rfl, rfl, rfl, rfl, rfl, rfl, rfl, rfl⟩, .inr (.inr (.inr ⟨rfl, ⟨⟨rfl, rfl, rfl, rfl⟩, rfl⟩, ⟨rfl, rfl, rfl, rfl⟩, rfl⟩))⟩
  · by_cases ho : op = 211
    · subst ho
      exact ⟨_, _, 0, endsQ_q (endsQ hm hh h0 (ouR m g _ _) (by omega)) (fun n => rfl), endsQ_q (endsQ (m := setF m s z x p c) (setF_ok hm) hh h0 (ouR (setF m s z x p c) g _ _) (by omega)) (fun n => rfl), ⟨rfl, rfl, rfl, rfl, rfl, rfl, rfl, rfl, rfl, rfl⟩, .inr (.inr (.inr ⟨rfl, ⟨⟨rfl, rfl, rfl, rfl⟩, rfl⟩, ⟨rfl, rfl, rfl, rfl⟩, rfl⟩))⟩
    · obtain ⟨a, b, ga, gb, k, e1, e2, e3, e4⟩ := tw_all hm hg hh h0 h1 h2 hs hi ho ha
      exact ⟨a, b, k, e1.q, e2.q, e3, e4⟩
def zG : Nat → Nat → Value := fun x q => ((cellsL (Value.int .u8 0))[q]?).getD undef
def memG (op n : Int) : Nat → Nat → Value := fun i j => updG (updG (updG zG 0 0 [.int .u8 op]) 1 0 [.int .u8 (IntKind.u8.wrap n)]) 2 0 [.int .u8 (IntKind.u8.wrap (n.fdiv 256))] (0 + i) j
def memI (op n : Int) : Nat → Int := fun e => upd (upd (upd (fun _ => 0) 0 op) 1 (IntKind.u8.wrap n)) 2 (IntKind.u8.wrap (n.fdiv 256)) (0 + e)
theorem memG_eq (op n : Int) : LOeq (.fn 1 (memG op n) 65536 5) (memL (memI op n)) := by
  refine .inr ⟨1, _, _, _, _, rfl, rfl, fun e x _ hx => ?_⟩
  obtain rfl : x = 0 := by omega
  rfl
def argsT (op n r0 r1 r2 r3 r4 r5 r6 r7 : Int) (s z x p c s2 z2 x2 p2 c2 : Bool) : List Value := [.int .u8 op, .int .u16 n, .agg ⟨[.int .u8 r0, .int .u8 r1, .int .u8 r2, .int .u8 r3, .int .u8 r4, .int .u8 r5, .int .u8 r6, .int .u8 r7]⟩, .agg ⟨[.bool s, .bool z, .bool x, .bool p, .bool c]⟩, .agg ⟨[.bool s2, .bool z2, .bool x2, .bool p2, .bool c2]⟩]
def mT (r0 r1 r2 r3 r4 r5 r7 : Int) (s z x p c : Bool) : Mc := ⟨r0, r1, r2, r3, r4, r5, r7, s, z, x, p, c, 4096, 0, false, false⟩
def rdT : St := Ly.start Try.f7 [] H0
def kT : List KI := ((Ly.run cxT 9000 [(0, true), (0, false), (0, true), (0, true), (64, false)] (Ly.start Try.f7 (argsT 0 0 0 0 0 0 0 0 0 0 false false false false false false false false false false) H0)).st rdT).top.k
def vT (v w o : Int) : List Value := slots 164 [(12, .int .i64 v), (13, ptr 9), (14, ptr 16), (15, .int .i64 w), (16, .int .i64 o), (65, ptr 9)]
def tT (op : Int) (w o : Int) : List (Bool × Bool) := [(inb op, true), (sizeT op == 0, false), (inb op, true), (inb op, true), (bits .and .i64 w (usesT op) != bits .and .i64 o (usesT op), false)]
set_option maxRecDepth 100000 in
theorem openT (op n r0 r1 r2 r3 r4 r5 r6 r7 : Int) (s z x p c s2 z2 x2 p2 c2 : Bool) : haltH [12, 13, 14, 15, 16, 65] [9, 8, 16, 15] 17 rdT (Ly.run cxT 9000 [(0, true), (0, false), (0, true), (0, true), (64, false)] (Ly.start Try.f7 (argsT op n r0 r1 r2 r3 r4 r5 r6 r7 s z x p c s2 z2 x2 p2 c2) H0)) =
  (true, tT op (mkF s z x p c) (mkF s2 z2 x2 p2 c2), true, (Try.f7, kT, none, 0), vT (setsT op) (mkF s z x p c) (mkF s2 z2 x2 p2 c2), (true, true, true),
   [some (.cells (cellsPb 8 (mT r0 r1 r2 r3 r4 r5 r7 s z x p c) nilS nilS) 53), some (.fn 1 (memG op n) 65536 5), some (.cells (cellsPb 15 (mT r0 r1 r2 r3 r4 r5 r7 s2 z2 x2 p2 c2) nilS nilS) 53), some (.fn 1 (memG op n) 65536 5)]) := by kernel_rfl
end Go.Proofs.Ytdjmpilegommlaa
namespace Go.Proofs.Ytdjmpilegommlaa
open Go Go.Ly Go.RowKit
def sT (v w o : Int) (H : Heap) : St := atSt Try.f7 kT none 0 (vT v w o) H
theorem callT (v w o : Int) (H : Heap) : callOf env (sT v w o H) = some (23, [ptr 9]) := by kernel_rfl
def kT2 : List KI := ((Ly.run cxT 60 [] (behind (sT 0 0 0 H0) (.int .i64 0) H0)).st rdT).top.k
def vT2 (v w o k : Int) : List Value := slots 164 [(12, .int .i64 v), (13, ptr 9), (14, ptr 16), (15, .int .i64 w), (16, .int .i64 o), (66, .int .i64 k), (67, ptr 16)]
def sT2 (v w o k : Int) (H : Heap) : St := atSt Try.f7 kT2 none 0 (vT2 v w o k) H
theorem runT2 (v w o k : Int) (H H' : Heap) : haltF [12, 13, 14, 15, 16, 66, 67] rdT (Ly.run cxT 60 [] (behind (sT v w o H) (.int .i64 k) H')) = (true, [], true, (Try.f7, kT2, none, 0), vT2 v w o k, H') := by kernel_rfl
theorem callT2 (v w o k : Int) (H : Heap) : callOf env (sT2 v w o k H) = some (23, [ptr 16]) := by kernel_rfl
def HT (a b : Mc) (i1 o1 i2 o2 : Value) : Heap := vH [9, 16] [some (.cells (cellsPb 8 a i1 o1) 53), some (.cells (cellsPb 15 b i2 o2) 53)] 2000
end Go.Proofs.Ytdjmpilegommlaa
namespace Go.Proofs.Ytdjmpilegommlaa
open Go Go.Ly Go.RowKit
theorem mand31 (s z x p c : Bool) : bits .and .i64 (mkF s z x p c) 31 = mkF s z x p c := by cases s <;> cases z <;> cases x <;> cases p <;> cases c <;> rfl
theorem mand15 (s z x p c : Bool) : bits .and .i64 (mkF s z x p c) 15 = cI s + 2 * cI z + 4 * cI x + 8 * cI p := by cases s <;> cases z <;> cases x <;> cases p <;> cases c <;> rfl
theorem mand16 (s z x p c : Bool) : bits .and .i64 (mkF s z x p c) 16 = 16 * cI c := by cases s <;> cases z <;> cases x <;> cases p <;> cases c <;> rfl
theorem mand0 (s z x p c : Bool) : bits .and .i64 (mkF s z x p c) 0 = 0 := by cases s <;> cases z <;> cases x <;> cases p <;> cases c <;> rfl
theorem mand1 (s z x p c : Bool) : bits .and .i64 (mkF s z x p c) 1 = cI s := by cases s <;> cases z <;> cases x <;> cases p <;> cases c <;> rfl
theorem mand2 (s z x p c : Bool) : bits .and .i64 (mkF s z x p c) 2 = 2 * cI z := by cases s <;> cases z <;> cases x <;> cases p <;> cases c <;> rfl
theorem mand8 (s z x p c : Bool) : bits .and .i64 (mkF s z x p c) 8 = 8 * cI p := by cases s <;> cases z <;> cases x <;> cases p <;> cases c <;> rfl
theorem mand20 (s z x p c : Bool) : bits .and .i64 (mkF s z x p c) 20 = 4 * cI x + 16 * cI c := by cases s <;> cases z <;> cases x <;> cases p <;> cases c <;> rfl
theorem mnot31 (s z x p c : Bool) : bits .andNot .i64 (mkF s z x p c) 31 = 0 := by cases s <;> cases z <;> cases x <;> cases p <;> cases c <;> rfl
theorem mnot15 (s z x p c : Bool) : bits .andNot .i64 (mkF s z x p c) 15 = 16 * cI c := by cases s <;> cases z <;> cases x <;> cases p <;> cases c <;> rfl
theorem mnot16 (s z x p c : Bool) : bits .andNot .i64 (mkF s z x p c) 16 = cI s + 2 * cI z + 4 * cI x + 8 * cI p := by cases s <;> cases z <;> cases x <;> cases p <;> cases c <;> rfl
theorem mnot0 (s z x p c : Bool) : bits .andNot .i64 (mkF s z x p c) 0 = mkF s z x p c := by cases s <;> cases z <;> cases x <;> cases p <;> cases c <;> rfl
def mkM (m : Mc) : Int := mkF m.fs m.fz m.fx m.fp m.fc
theorem fr_masks {v : Int} {m n a b : Mc} (h : FR v m n a b) : bits .and .i64 (mkM a) v = bits .and .i64 (mkM b) v ∧ bits .andNot .i64 (mkM a) v = bits .andNot .i64 (mkM m) v ∧ bits .andNot .i64 (mkM b) v = bits .andNot .i64 (mkM n) v := by
  unfold mkM
  rcases h with ⟨rfl, ⟨e1, e2, e3, e4⟩, e5⟩ | ⟨rfl, ⟨e1, e2, e3, e4⟩, e5, e6⟩ | ⟨rfl, e5, ⟨e1, e2, e3, e4⟩, e6, e7, e8, e9⟩ | ⟨rfl, ⟨⟨e1, e2, e3, e4⟩, e5⟩, ⟨e6, e7, e8, e9⟩, e10⟩
  · simp only [mand31, mnot31, e1, e2, e3, e4, e5, and_self]
  · simp only [mand15, mnot15, e1, e2, e3, e4, e5, e6, and_self]
  · simp only [mand16, mnot16, e1, e2, e3, e4, e5, e6, e7, e8, e9, and_self]
  · simp only [mand0, mnot0, e1, e2, e3, e4, e5, e6, e7, e8, e9, e10, and_self]
theorem agr_of {u : Int} {m : Mc} {s z x p c : Bool} (h : bits .and .i64 (mkM m) u = bits .and .i64 (mkF s z x p c) u) : Agr u m s z x p c := by
  unfold mkM at h
  have key : ∀ a b : Bool, cI a = cI b → a = b := by intro a b; cases a <;> cases b <;> simp [cI]
  refine ⟨?_, ?_, ?_, ?_, ?_, ?_⟩
  · rintro rfl; rw [mand1, mand1] at h; exact key _ _ h
  · rintro rfl; rw [mand2, mand2] at h; exact key _ _ (by omega)
  · rintro rfl; rw [mand8, mand8] at h; exact key _ _ (by omega)
  · rintro rfl; rw [mand16, mand16] at h; exact key _ _ (by omega)
  · rintro rfl; rw [mand20, mand20] at h
    have := cIb m.fx; have := cIb m.fc; have := cIb x; have := cIb c
    exact ⟨key _ _ (by omega), key _ _ (by omega)⟩
  · rintro rfl; rw [mand31, mand31] at h; unfold mkF at h
    have := cIb m.fs; have := cIb m.fz; have := cIb m.fx; have := cIb m.fp; have := cIb m.fc; have := cIb s; have := cIb z; have := cIb x; have := cIb p; have := cIb c
    exact ⟨key _ _ (by omega), key _ _ (by omega), key _ _ (by omega), key _ _ (by omega), key _ _ (by omega)⟩
def tF (a b : Mc) (v w o k : Int) : List (Bool × Bool) := [((k != k) == false, true), ((!(a.r0 == b.r0 && (a.r1 == b.r1 && (a.r2 == b.r2 && (a.r3 == b.r3 && (a.r4 == b.r4 && (a.r5 == b.r5 && ((0 : Int) == 0 && (a.r7 == b.r7 && true))))))))) == false, true), ((a.sp != b.sp) == false, true), ((a.pc != b.pc) == false, true), (!(a.halt == b.halt), false), ((bits .and .i64 (mkM a) v == bits .and .i64 (mkM b) v) == true, true), ((bits .andNot .i64 (mkM a) v == bits .andNot .i64 w v) == true, true), ((bits .andNot .i64 (mkM b) v == bits .andNot .i64 o v) == true, true)]
theorem runF (a b : Mc) (v w o k : Int) (H : Heap) : (Ly.run cxT 3000 [(0, true), (11, true), (11, true), (11, true), (11, false), (2, true), (7, true), (7, true)] (behind (sT2 v w o k H) (.int .i64 k) (HT a b anyV anyV anyV anyV))).out? = some (tF a b v w o k, .bool true) := by kernel_rfl
theorem bhT (v w o k : Int) (H1 H2 K : Heap) : { behind (sT2 v w o k H1) (.int .i64 k) H2 with H := K } = behind (sT2 v w o k H1) (.int .i64 k) K := by kernel_rfl
theorem ow_any (b : Nat) (m : Mc) (i o : Value) : OW (.cells (cellsPb b m i o) 53) (.cells (cellsPb b m anyV anyV) 53) := by
  refine OW.cells ?_
  simp only [cellsPb, VWL]
  exact ⟨_, _, VW.refl _, ⟨_, _, VW.refl _, ⟨_, _, VW.refl _, ⟨_, _, VW.refl _, ⟨_, _, VW.refl _, ⟨_, _, VW.refl _, ⟨_, _, VW.refl _, ⟨_, _, VW.refl _, ⟨_, _, VW.refl _, ⟨_, _, VW.refl _, ⟨_, _, VW.refl _, ⟨_, _, VW.refl _, ⟨_, _, VW.refl _, ⟨_, _, VW.refl _, ⟨_, _, VW.refl _, ⟨_, _, VW.refl _, ⟨_, _, VW.refl _, ⟨_, _, VW.any _, ⟨_, _, VW.any _, ⟨_, _, VW.refl _, rfl, rfl⟩, rfl⟩, rfl⟩, rfl⟩, rfl⟩, rfl⟩, rfl⟩, rfl⟩, rfl⟩, rfl⟩, rfl⟩, rfl⟩, rfl⟩, rfl⟩, rfl⟩, rfl⟩, rfl⟩, rfl⟩, rfl⟩, rfl⟩
theorem tailT {m : Mc} {g : Nat → Int} {s z x p c : Bool} {v : Int} {H : Heap} (hl : H.lock = 0) (hn : H.next ≤ 1000) (hc : ∀ i o, i < H.next → H.get i = some o → noTokO o = true) (h9 : H.get 9 = some (.cells (cellsPb 8 m nilS nilS) 53)) (h8 : H.get 8 = some (memL g))
    (h16 : H.get 16 = some (.cells (cellsPb 15 (setF m s z x p c) nilS nilS) 53)) (h15 : H.get 15 = some (memL g)) (ht : TwQ v m (setF m s z x p c) g) :
    MWp Try.prog (sT v (mkM m) (mkM (setF m s z x p c)) H) (fun u _ => u = .bool true) := by
  have hbig : big = 2147483000 := rfl
  obtain ⟨a, b, k, e1, e2, hq, hf⟩ := ht
  refine MWp.ltn (fun (hlt : ∀ i o, H.get i = some o → i < H.next) (_ : H.next < big) => ?_)
  have hc : Ly.Clean H := fun i o ho => hc i o (hlt i o ho) ho
  have l16 := hlt _ _ h16
  have l15 := hlt _ _ h15
  refine MWp.call envOk (callT v _ _ H) (e1 H 9 8 h9 h8 (by decide) hl hc (by omega)) ?_
  rintro u K1 ⟨rfl, k1, k2, k3, ⟨i1, o1, k4⟩, k5⟩
  have k3 : K1.next = H.next + 62 := k3
  have k5 : ∀ i, i < H.next → i ≠ 9 → i ≠ 8 → K1.get i = H.get i := k5
  refine MWp.halted cxT_ok _ _ _ (runT2 v _ _ k H K1) trivial ?_
  refine MWp.call envOk (callT2 v _ _ k K1) (e2 K1 16 15 (by rw [k5 16 l16 (by decide) (by decide)]; exact h16) (by rw [k5 15 l15 (by decide) (by decide)]; exact h15) (by decide) k1 k2 (by omega)) ?_
  rintro u K2 ⟨rfl, q1, q2, q3, ⟨i2, o2, q4⟩, q5⟩
  have q3 : K2.next = K1.next + 62 := q3
  have q5 : ∀ i, i < K1.next → i ≠ 16 → i ≠ 15 → K2.get i = K1.get i := q5
  have h9' : K2.get 9 = some (.cells (cellsPb 8 a i1 o1) 53) := by rw [q5 9 (by have := hlt _ _ h9; omega) (by decide) (by decide)]; exact k4
  have hHb : (behind (sT2 v (mkM m) (mkM (setF m s z x p c)) k K1) (.int .i64 k) K2).H = K2 := behind_H (E := env) (by rw [callT2]; rfl)
  show MWp Try.prog (behind (sT2 v (mkM m) (mkM (setF m s z x p c)) k K1) (.int .i64 k) K2) _
  refine MWp.few (I := [9, 16]) (os := [.cells (cellsPb 8 a anyV anyV) 53, .cells (cellsPb 15 b anyV anyV) 53]) (n := 2000) (by rw [hHb]; exact q1) (by rw [hHb]; omega) (by omega) rfl (by decide) (by decide) (fun j y o hj hoo => ?_) ?_
  · rw [hHb]
    rcases j with _ | _ | j
    · simp at hj hoo; subst hj hoo; exact ⟨_, h9', ow_any _ _ _ _⟩
    · simp at hj hoo; subst hj hoo; exact ⟨_, q4, ow_any _ _ _ _⟩
    · simp at hj
  · rw [bhT]
    obtain ⟨r0, r1, r2, r3, r4, r5, r7, sp, pc, hlt'⟩ := hq
    obtain ⟨f1, f2, f3⟩ := fr_masks hf
    refine MWp.out cxT_ok 3000 _ (runF a b v _ _ k K1) ?_ (fun _ => rfl)
    simp [tF, trusted, r0, r1, r2, r3, r4, r5, r7, sp, pc, hlt', f1, f2, f3]
theorem gL7 : cxT.fn.get 7 = some Try.f7 := by kernel_rfl
theorem outT0 (op n r0 r1 r2 r3 r4 r5 r6 r7 : Int) (s z x p c s2 z2 x2 p2 c2 : Bool) : (Ly.run cxT 9000 [(0, true), (0, true)] (Ly.start Try.f7 (argsT op n r0 r1 r2 r3 r4 r5 r6 r7 s z x p c s2 z2 x2 p2 c2) H0)).out? = some ([(inb op, true), (sizeT op == 0, true)], .bool true) := by kernel_rfl
set_option maxRecDepth 100000 in
theorem outT1 (op n r0 r1 r2 r3 r4 r5 r6 r7 : Int) (s z x p c s2 z2 x2 p2 c2 : Bool) : (Ly.run cxT 9000 [(0, true), (0, false), (0, true), (0, true), (64, true)] (Ly.start Try.f7 (argsT op n r0 r1 r2 r3 r4 r5 r6 r7 s z x p c s2 z2 x2 p2 c2) H0)).out? =
  some ([(inb op, true), (sizeT op == 0, false), (inb op, true), (inb op, true), (bits .and .i64 (mkF s z x p c) (usesT op) != bits .and .i64 (mkF s2 z2 x2 p2 c2) (usesT op), true)], .bool true) := by kernel_rfl
theorem true_calls (op n r0 r1 r2 r3 r4 r5 r6 r7 : Int) (s z x p c s2 z2 x2 p2 c2 : Bool) (hop : B8 op) (h0 : B8 r0) (h1 : B8 r1) (h2 : B8 r2) (h3 : B8 r3) (h4 : B8 r4) (h5 : B8 r5) (h7 : B8 r7) :
    LCalls Try.prog 7 (argsT op n r0 r1 r2 r3 r4 r5 r6 r7 s z x p c s2 z2 x2 p2 c2) H0 (fun u _ => u = .bool true) := by
  have hi := inb_of hop
  rcases Bool.eq_false_or_eq_true (sizeT op == 0) with hs | hs
  · exact LCalls_of cxT_ok gL7 (by kernel_rfl) (MWp.out cxT_ok 9000 _ (outT0 op n r0 r1 r2 r3 r4 r5 r6 r7 s z x p c s2 z2 x2 p2 c2) (by simp only [trusted, hi, hs, and_self]) (fun _ => rfl))
  rcases Bool.eq_false_or_eq_true (bits .and .i64 (mkF s z x p c) (usesT op) != bits .and .i64 (mkF s2 z2 x2 p2 c2) (usesT op)) with hu | hu
  · exact LCalls_of cxT_ok gL7 (by kernel_rfl) (MWp.out cxT_ok 9000 _ (outT1 op n r0 r1 r2 r3 r4 r5 r6 r7 s z x p c s2 z2 x2 p2 c2) (by simp only [trusted, hi, hs, hu, and_self]) (fun _ => rfl))
  refine LCalls_of cxT_ok gL7 (by kernel_rfl) (MWp.haltH cxT_ok _ _ _ _ (openT op n r0 r1 r2 r3 r4 r5 r6 r7 s z x p c s2 z2 x2 p2 c2) (by simp only [tT, trusted, hi, hs, hu, and_self]) ?_)
  intro H hnx hl hc hos
  simp only [List.map_cons, List.map_nil, List.cons.injEq, and_true] at hos
  obtain ⟨e1, e2, e3, e4⟩ := hos
  have hbig : big = 2147483000 := rfl
  have hS : (atSt Try.f7 kT none 0 (vT (setsT op) (mkF s z x p c) (mkF s2 z2 x2 p2 c2)) H).H = H := rfl
  refine MWp.few (I := [9, 8, 16, 15]) (os := [.cells (cellsPb 8 (mT r0 r1 r2 r3 r4 r5 r7 s z x p c) nilS nilS) 53, memL (memI op n), .cells (cellsPb 15 (mT r0 r1 r2 r3 r4 r5 r7 s2 z2 x2 p2 c2) nilS nilS) 53, memL (memI op n)]) (n := 17)
    (by rw [hS]; exact hl) (by rw [hS]; omega) (by omega) rfl (by decide) (by decide) (fun j y o hj hoo => ?_) ?_
  · rw [hS]
    rcases j with _ | _ | _ | _ | j
    · simp at hj hoo; subst hj hoo; exact ⟨_, e1, OW.refl _⟩
    · simp at hj hoo; subst hj hoo; exact ⟨_, e2, .inr (memG_eq op n)⟩
    · simp at hj hoo; subst hj hoo; exact ⟨_, e3, OW.refl _⟩
    · simp at hj hoo; subst hj hoo; exact ⟨_, e4, .inr (memG_eq op n)⟩
    · simp at hj
  · have hm : (mT r0 r1 r2 r3 r4 r5 r7 s z x p c).Ok := ⟨h0, h1, h2, h3, h4, h5, h7, by unfold B16 mT; simp, by unfold B16 mT; simp⟩
    have hg : ∀ e, B8 (memI op n e) := fun e => upd_b8 (upd_b8 (upd_b8 (fun _ => by unfold B8; omega) hop) (b8w8 n)) (b8w8 (n.fdiv 256)) (0 + e)
    have hsz : sizeT op ≠ 0 := by simpa using hs
    have hu' : bits .and .i64 (mkF s z x p c) (usesT op) = bits .and .i64 (mkF s2 z2 x2 p2 c2) (usesT op) := by simpa using hu
    have hag : Agr (usesT op) (mT r0 r1 r2 r3 r4 r5 r7 s z x p c) s2 z2 x2 p2 c2 := agr_of hu'
    have htw := twQ hm hg rfl (op := op) rfl hop.1 hop.2 hsz hag
    exact tailT (m := mT r0 r1 r2 r3 r4 r5 r7 s z x p c) (g := memI op n) rfl (by show 17 ≤ 1000; omega) (fun i o hi ho => cleanB_spec 17 (by kernel_rfl) i hi o ho) (by kernel_rfl) (by kernel_rfl) (by kernel_rfl) (by kernel_rfl) htw
theorem true_walk (W : World) (v0 v1 v2 v3 v4 : Value) (h0 : CkOk W (.int .u8) v0) (h1 : CkOk W (.int .u16) v1) (h2 : ∃ cs, v2 = .agg ⟨cs⟩ ∧ CksOk W [.int .u8, .int .u8, .int .u8, .int .u8, .int .u8, .int .u8, .int .u8, .int .u8] cs)
    (h3 : ∃ cs, v3 = .agg ⟨cs⟩ ∧ CksOk W [.bool, .bool, .bool, .bool, .bool] cs) (h4 : ∃ cs, v4 = .agg ⟨cs⟩ ∧ CksOk W [.bool, .bool, .bool, .bool, .bool] cs) :
    Calls Try.prog 7 #[v0, v1, v2, v3, v4] W fun e W' => e = .returned (.bool true) ∧ Below W.heap.size W W' := by
  simp only [CkOk] at h0 h1
  obtain ⟨op, rfl, hop⟩ := h0
  obtain ⟨n, rfl, _⟩ := h1
  obtain ⟨cs, rfl, h2⟩ := h2
  obtain ⟨ds, rfl, h3⟩ := h3
  obtain ⟨es, rfl, h4⟩ := h4
  simp only [CksOk, CkOk] at h2 h3 h4
  obtain ⟨_, _, rfl, ⟨r0, rfl, k0⟩, _, _, rfl, ⟨r1, rfl, k1⟩, _, _, rfl, ⟨r2, rfl, k2⟩, _, _, rfl, ⟨r3, rfl, k3⟩, _, _, rfl, ⟨r4, rfl, k4⟩, _, _, rfl, ⟨r5, rfl, k5⟩, _, _, rfl, ⟨r6, rfl, k6⟩, _, _, rfl, ⟨r7, rfl, k7⟩, rfl⟩ := h2
  obtain ⟨_, _, rfl, ⟨s, rfl⟩, _, _, rfl, ⟨z, rfl⟩, _, _, rfl, ⟨x, rfl⟩, _, _, rfl, ⟨p, rfl⟩, _, _, rfl, ⟨c, rfl⟩, rfl⟩ := h3
  obtain ⟨_, _, rfl, ⟨s2, rfl⟩, _, _, rfl, ⟨z2, rfl⟩, _, _, rfl, ⟨x2, rfl⟩, _, _, rfl, ⟨p2, rfl⟩, _, _, rfl, ⟨c2, rfl⟩, rfl⟩ := h4
  exact calls_plain (plainL_VR _ (by rfl)) (fun ρ v' h => by simpa [VR] using h) (true_calls op n r0 r1 r2 r3 r4 r5 r6 r7 s z x p c s2 z2 x2 p2 c2 (bounds_u8 hop) (bounds_u8 k0) (bounds_u8 k1) (bounds_u8 k2) (bounds_u8 k3) (bounds_u8 k4) (bounds_u8 k5) (bounds_u8 k7)) W
end Go.Proofs.Ytdjmpilegommlaa
end
