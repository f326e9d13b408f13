/- Part 5 of the texts that the law needs, laid together. By program (pack.py). -/
import Derived.Test.YtobdoejkioenhaaPga
import Derived.Test.YtobdoejkioenhaaPgd
import Derived.KernelRfl
import Derived.StringKeys
import Derived.Sort.Walk0
import Derived.Shelf.SlMaps.DeleteFunc
set_option linter.unusedVariables false
set_option linter.unusedSimpArgs false
noncomputable section
namespace Go.Proofs.Ytobdoejkioenhaa
open Go Go.Ly Go.RowKit
def urD : St := Ly.start Try.f24 [] H0
def urK : List KI := ((Ly.run ctxB 15 [] (Ly.start Try.f24 [.string ⟨⟨[]⟩⟩] H0)).st urD).top.k
def urV (s : ByteArray) (w : Value) (i : Int) : List Value := slots 29 [(0, .string s), (3, w), (4, .int .i64 i)]
def urT (k : Nat) : Bool × Bool := (true && (Nat.ble (0 + k) k && ((Nat.beq 1 1 && (Nat.beq 5 5 && (Nat.beq k k && true))) && (Nat.ble 1 k && Nat.ble (k + 1) 4294967296))), true)
theorem ur0 (s : ByteArray) : headAt [0, 3, 4] [] urD (Ly.run ctxB 15 [] (Ly.start Try.f24 [.string s] H0)) = (true, [], true, (Try.f24, urK, none, 0), urV s (.slice none 0 0) 0, []) := by kernel_rfl
theorem urU0 (s : ByteArray) (i : Int) : headAt [0, 3, 4] [1] urD (Ly.run ctxB 49 [(0, true), (0, true), (0, true), (2, true)] (mkSt Try.f24 urK none 0 (urV s (.slice none 0 0) i) [])) = (true, [(decide (i < (s.size : Int)), true), (decide (0 ≤ i) && decide (i < (s.size : Int)), true), (decide (97 ≤ byteA s i.toNat) == true, true), (decide (byteA s i.toNat ≤ 122), true)], true, (Try.f24, urK, none, 0), urV s (sl 0 1) (IntKind.i64.wrap (i + 1)), [some (.fn 1 (lstG 1 1 [.int .u8 (IntKind.u8.wrap (byteA s i.toNat - 32))]) 1 5)]) := by kernel_rfl
theorem urV0 (s : ByteArray) (i : Int) : headAt [0, 3, 4] [1] urD (Ly.run ctxB 45 [(0, true), (0, true), (0, true), (2, false)] (mkSt Try.f24 urK none 0 (urV s (.slice none 0 0) i) [])) = (true, [(decide (i < (s.size : Int)), true), (decide (0 ≤ i) && decide (i < (s.size : Int)), true), (decide (97 ≤ byteA s i.toNat) == true, true), (decide (byteA s i.toNat ≤ 122), false)], true, (Try.f24, urK, none, 0), urV s (sl 0 1) (IntKind.i64.wrap (i + 1)), [some (.fn 1 (lstG 1 1 [.int .u8 (byteA s i.toNat)]) 1 5)]) := by kernel_rfl
theorem urW0 (s : ByteArray) (i : Int) : headAt [0, 3, 4] [1] urD (Ly.run ctxB 45 [(0, true), (0, true), (0, false)] (mkSt Try.f24 urK none 0 (urV s (.slice none 0 0) i) [])) = (true, [(decide (i < (s.size : Int)), true), (decide (0 ≤ i) && decide (i < (s.size : Int)), true), (decide (97 ≤ byteA s i.toNat) == true, false)], true, (Try.f24, urK, none, 0), urV s (sl 0 1) (IntKind.i64.wrap (i + 1)), [some (.fn 1 (lstG 1 1 [.int .u8 (byteA s i.toNat)]) 1 5)]) := by kernel_rfl
theorem urU (s : ByteArray) (g : Nat → Nat → Value) (k : Nat) (i : Int) : headAt [0, 3, 4] [2] urD (Ly.run ctxB 49 [(0, true), (0, true), (0, true), (2, true), (0, true)] (mkSt Try.f24 urK none 0 (urV s (sl 0 k) i) [some (.fn 1 g k 5)])) = (true, [(decide (i < (s.size : Int)), true), (decide (0 ≤ i) && decide (i < (s.size : Int)), true), (decide (97 ≤ byteA s i.toNat) == true, true), (decide (byteA s i.toNat ≤ 122), true), urT k], true, (Try.f24, urK, none, 0), urV s (sl 0 (k + 1)) (IntKind.i64.wrap (i + 1)), [some (.fn 1 (joinG k (fun e j => g (0 + e) j) (lstG 1 1 [.int .u8 (IntKind.u8.wrap (byteA s i.toNat - 32))])) (k + 1) 5)]) := by kernel_rfl
theorem urV1 (s : ByteArray) (g : Nat → Nat → Value) (k : Nat) (i : Int) : headAt [0, 3, 4] [2] urD (Ly.run ctxB 45 [(0, true), (0, true), (0, true), (2, false), (0, true)] (mkSt Try.f24 urK none 0 (urV s (sl 0 k) i) [some (.fn 1 g k 5)])) = (true, [(decide (i < (s.size : Int)), true), (decide (0 ≤ i) && decide (i < (s.size : Int)), true), (decide (97 ≤ byteA s i.toNat) == true, true), (decide (byteA s i.toNat ≤ 122), false), urT k], true, (Try.f24, urK, none, 0), urV s (sl 0 (k + 1)) (IntKind.i64.wrap (i + 1)), [some (.fn 1 (joinG k (fun e j => g (0 + e) j) (lstG 1 1 [.int .u8 (byteA s i.toNat)])) (k + 1) 5)]) := by kernel_rfl
theorem urW (s : ByteArray) (g : Nat → Nat → Value) (k : Nat) (i : Int) : headAt [0, 3, 4] [2] urD (Ly.run ctxB 45 [(0, true), (0, true), (0, false), (3, true)] (mkSt Try.f24 urK none 0 (urV s (sl 0 k) i) [some (.fn 1 g k 5)])) = (true, [(decide (i < (s.size : Int)), true), (decide (0 ≤ i) && decide (i < (s.size : Int)), true), (decide (97 ≤ byteA s i.toNat) == true, false), urT k], true, (Try.f24, urK, none, 0), urV s (sl 0 (k + 1)) (IntKind.i64.wrap (i + 1)), [some (.fn 1 (joinG k (fun e j => g (0 + e) j) (lstG 1 1 [.int .u8 (byteA s i.toNat)])) (k + 1) 5)]) := by kernel_rfl
theorem urE0 (s : ByteArray) (i : Int) : (Ly.run ctxB 200 [(0, false)] (mkSt Try.f24 urK none 0 (urV s (.slice none 0 0) i) [])).out? = some ([(decide (i < (s.size : Int)), false)], .string ⟨⟨[]⟩⟩) := by kernel_rfl
theorem urE (s : ByteArray) (g : Nat → Nat → Value) (k : Nat) (i : Int) : (Ly.run ctxB 200 [(0, false), (0, true), (0, true)] (mkSt Try.f24 urK none 0 (urV s (sl 0 k) i) [some (.fn 1 g k 5)])).out? = some ([(decide (i < (s.size : Int)), false), (Nat.ble k k && !(Nat.beq k 0), true), (propB (isU8 g k), true)], .string (Ly.strOf (fun e => numOf (g e 0)) k)) := by kernel_rfl
end Go.Proofs.Ytobdoejkioenhaa
namespace Go.Proofs.Ytobdoejkioenhaa
open Go Go.Ly Go.RowKit
theorem urT_ok {k : Nat} (h : 1 ≤ k) (h2 : k ≤ 1000000) : (urT k).1 = (urT k).2 := by
  show (true && (Nat.ble (0 + k) k && ((Nat.beq 1 1 && (Nat.beq 5 5 && (Nat.beq k k && true))) && (Nat.ble 1 k && Nat.ble (k + 1) 4294967296)))) = true
  have hb : Nat.beq k k = true := Nat.beq_refl k
  rw [Nat.zero_add, Nat.ble_eq_true_of_le (Nat.le_refl k), hb, Nat.ble_eq_true_of_le h, Nat.ble_eq_true_of_le (show k + 1 ≤ 4294967296 by omega)]; rfl
theorem noBlk_lst1 (v : Int) (e j : Nat) : noBlk (lstG 1 1 [.int .u8 v] e j) := by
  cases j with
  | zero => simp [lstG, noBlk, blks]
  | succ j => simp [lstG, noBlk, blks, undef, blksL]
theorem noBlk_join {k : Nat} {g h : Nat → Nat → Value} (hg : ∀ e j, noBlk (g e j)) (hh : ∀ e j, noBlk (h e j)) (e j : Nat) : noBlk (joinG k (fun e j => g (0 + e) j) h e j) := by
  unfold joinG
  rw [vif_eq]
  cases Nat.blt e k with
  | true => exact hg _ _
  | false => exact hh _ _
theorem plain_fn {g : Nat → Nat → Value} {k n : Nat} {t : TypeId} (hg : ∀ e j, noBlk (g e j)) : ∀ o ∈ [some (LO.fn k g n t)], ∀ x, o = some x → plainO x := by
  intro o ho x hx
  simp only [List.mem_cons, List.not_mem_nil, or_false] at ho
  subst ho
  simp only [Option.some.injEq] at hx
  subst hx
  exact hg
theorem join_lt {k : Nat} {g h : Nat → Nat → Value} {e : Nat} (he : e < k) : joinG k (fun e j => g (0 + e) j) h e 0 = g e 0 := by
  unfold joinG
  rw [vif_eq, show Nat.blt e k = true by rw [Nat.blt_eq]; exact he]
  show g (0 + e) 0 = g e 0
  rw [Nat.zero_add]
theorem join_eq {k : Nat} {g : Nat → Nat → Value} {v : Int} : joinG k (fun e j => g (0 + e) j) (lstG 1 1 [.int .u8 v]) k 0 = .int .u8 v := by
  unfold joinG
  rw [vif_eq, show Nat.blt k k = false from Bool.eq_false_iff.2 fun h => by rw [Nat.blt_eq] at h; omega]; rfl
theorem upc_w2 (c : Int) (h : 97 ≤ c) (h2 : c ≤ 122) : IntKind.u8.wrap (c - 32) = upc c := by
  unfold upc
  rw [decide_eq_true h, decide_eq_true h2]
  simp only [Bool.and_self, cond_true]
  rw [IntKind.wrap_u8]; omega
theorem ur_loop (s : ByteArray) (hs : s.size ≤ 1000000) : ∀ (d i : Nat) (g : Nat → Nat → Value), 1 ≤ i → i ≤ s.size → s.size - i = d → (∀ e j, noBlk (g e j)) → (∀ e, e < i → g e 0 = .int .u8 (upc (byteA s e))) →
    MWp Try.prog (mkSt Try.f24 urK none 0 (urV s (sl 0 i) (i : Int)) [some (.fn 1 g i 5)]) (fun v _ => v = .string (upS s))
  | 0, i, g, h0, h1, hd, hp, he => by
    have hi : i = s.size := by omega
    refine MWp.out ctxB_ok 200 _ (urE s g i i) ⟨by simp; omega, by rw [Nat.ble_eq_true_of_le (Nat.le_refl i), show Nat.beq i 0 = false from Bool.eq_false_iff.2 fun e => by have := Nat.eq_of_beq_eq_true e; omega]; rfl, propB_iff.2 fun e h => ⟨_, he e h⟩, trivial⟩ ?_
    intro _
    rw [show Ly.strOf (fun e => numOf (g e 0)) i = upS s by rw [hi]; exact strOf_congr fun e h => by rw [he e (by omega)]; rfl]
  | d + 1, i, g, h0, h1, hd, hp, he => by
    have hi : i < s.size := by omega
    have hi2 : (i : Int) < (s.size : Int) := by omega
    have hw : IntKind.i64.wrap ((i : Int) + 1) = ((i + 1 : Nat) : Int) := by rw [IntKind.wrap_i64]; omega
    have hz : (i : Int).toNat = i := by omega
    have next : ∀ v, v = upc (byteA s i) → MWp Try.prog (mkSt Try.f24 urK none 0 (urV s (sl 0 (i + 1)) (IntKind.i64.wrap ((i : Int) + 1))) [some (.fn 1 (joinG i (fun e j => g (0 + e) j) (lstG 1 1 [.int .u8 v])) (i + 1) 5)]) (fun v _ => v = .string (upS s)) := by
      rintro v rfl
      rw [hw]
      refine ur_loop s hs d (i + 1) _ (by omega) (by omega) (by omega) (noBlk_join hp (noBlk_lst1 _)) (fun e h => ?_)
      by_cases hei : e < i
      · rw [join_lt hei]; exact he e hei
      · have : e = i := by omega
        subst this; exact join_eq
    have hpl : ∀ v, ∀ o ∈ [some (LO.fn 1 (joinG i (fun e j => g (0 + e) j) (lstG 1 1 [.int .u8 v])) (i + 1) 5)], ∀ x, o = some x → plainO x := fun v => plain_fn (noBlk_join hp (noBlk_lst1 _))
    have hT := urT_ok (k := i) h0 (by omega)
    by_cases h97 : 97 ≤ byteA s i
    · by_cases h122 : byteA s i ≤ 122
      · refine MWp.head ctxB_ok _ _ _ _ (urU s g i i) (by rw [hz]; simp only [trusted]; exact ⟨by simpa using hi2, by simpa using hi2, by simpa using h97, by simpa using h122, hT, trivial⟩) (hpl _) (next _ ?_)
        rw [hz]; exact upc_w2 _ h97 h122
      · refine MWp.head ctxB_ok _ _ _ _ (urV1 s g i i) (by rw [hz]; simp only [trusted]; exact ⟨by simpa using hi2, by simpa using hi2, by simpa using h97, by simpa using h122, hT, trivial⟩) (hpl _) (next _ ?_)
        rw [hz]; exact (upc_no (by omega)).symm
    · refine MWp.head ctxB_ok _ _ _ _ (urW s g i i) (by rw [hz]; simp only [trusted]; exact ⟨by simpa using hi2, by simpa using hi2, by simpa using h97, hT, trivial⟩) (hpl _) (next _ ?_)
      rw [hz]; exact (upc_no (by omega)).symm
theorem gUr : ctxB.fn.get 24 = some Try.f24 := by kernel_rfl
theorem ur_calls (s : ByteArray) (hs : s.size ≤ 1000000) : LCalls Try.prog 24 [.string s] H0 (fun u _ => u = .string (upS s)) := by
  refine LCalls_of ctxB_ok gUr (by kernel_rfl) ?_
  refine MWp.head ctxB_ok _ _ _ _ (ur0 s) trivial (by simp) ?_
  by_cases h0 : s.size = 0
  · refine MWp.out ctxB_ok 200 _ (urE0 s 0) (by simp [trusted, h0]) ?_
    intro _; unfold upS Ly.strOf; rw [h0]; rfl
  · have hi2 : (0 : Int) < (s.size : Int) := by omega
    have hw : IntKind.i64.wrap ((0 : Int) + 1) = ((1 : Nat) : Int) := by decide
    have next : ∀ v, v = upc (byteA s 0) → MWp Try.prog (mkSt Try.f24 urK none 0 (urV s (sl 0 1) (IntKind.i64.wrap ((0 : Int) + 1))) [some (.fn 1 (lstG 1 1 [.int .u8 v]) 1 5)]) (fun v _ => v = .string (upS s)) := by
      rintro v rfl
      rw [hw]
      refine ur_loop s hs _ 1 _ (by omega) (by omega) rfl (noBlk_lst1 _) (fun e h => ?_)
      have : e = 0 := by omega
      subst this; rfl
    have hpl : ∀ v, ∀ o ∈ [some (LO.fn 1 (lstG 1 1 [.int .u8 v]) 1 5)], ∀ x, o = some x → plainO x := fun v => plain_fn (noBlk_lst1 _)
    by_cases h97 : 97 ≤ byteA s 0
    · by_cases h122 : byteA s 0 ≤ 122
      · refine MWp.head ctxB_ok _ _ _ _ (urU0 s 0) ⟨by simpa using hi2, by simpa using hi2, by simpa using h97, by simpa using h122, trivial⟩ (hpl _) (next _ ?_)
        exact upc_w2 _ h97 h122
      · refine MWp.head ctxB_ok _ _ _ _ (urV0 s 0) ⟨by simpa using hi2, by simpa using hi2, by simpa using h97, by simpa using h122, trivial⟩ (hpl _) (next _ ?_)
        exact (upc_no (c := byteA s 0) (by omega)).symm
    · refine MWp.head ctxB_ok _ _ _ _ (urW0 s 0) ⟨by simpa using hi2, by simpa using hi2, by simpa using h97, trivial⟩ (hpl _) (next _ ?_)
      exact (upc_no (c := byteA s 0) (by omega)).symm
def upperC2 (l : List Value) : Option (Bool × Value) := match l with
  | [.string s] => some (Nat.ble s.size 1000000, .string (upS s))
  | _ => none
theorem ur_ans : Answers Try.prog 24 upperC2 := by
  intro args g v h hg
  unfold upperC2 at h
  split at h
  · rename_i s
    simp only [Option.some.injEq, Prod.mk.injEq] at h
    obtain ⟨rfl, rfl⟩ := h
    exact ⟨by simp [plain, plainL], by simp [plain], fun w => calls_plain (by simp [VRL, VR]) (fun ρ v' h => by simpa [VR] using h) (ur_calls s (Nat.le_of_ble_eq_true hg)) w⟩
  · cases h
def ctxC : Ctx := (((ctxA.with 21 nameC).with 22 upperC).with 23 nameC).with 24 upperC2
theorem ctxC_ok : ctxC.Ok Try.prog := (((ctxA_ok.with nm_ans).with up_ans).with nr_ans).with ur_ans
end Go.Proofs.Ytobdoejkioenhaa
namespace Go.Proofs.Ytobdoejkioenhaa
open Go Go.Ly Go.RowKit Go.Maps Go.Sort
theorem sorted_any {H : Type} (Bm b nn : Nat) (D0 : DataW H) (R : Value → Option (DataW H × List MemPlace)) (w : World) (hBm : Bm < w.heap.size) (hm : w.cell? ⟨Bm, 0, none⟩ = some (.map (some b))) (hown : w.ownsMap Try.prog 9 R b nn D0)
    (hmax : Maps.size D0 ≤ maxLen) (hbytes : Maps.size D0 * 16 ≤ 140737488355328) :
    CallsIn Fence.wide 5 Try.prog 27 #[.func (.func 35) #[] #[.pointer (some ⟨Bm, 0, none⟩)]] w fun e w' => ∃ (v : Value) (ss : List (List UInt8)), e = .returned v ∧ ss.Perm (strKeys D0) ∧
      w'.ownsRow w.heap.size 9 1 v ss.length ((ss.mergeSort (fun x y => decide (x ≤ y))).map encStr) ∧ (v = .slice none 0 0 ↔ ss = []) ∧ Below w.heap.size w w' := by
  have hseq : SeqGives Fence.wide 2 Try.prog 35 #[.pointer (some ⟨Bm, 0, none⟩)] encStr (fun ss => ss.Perm (strKeys D0)) (Maps.size D0) w :=
    AnyZ.keys_gives (ρ := Try.keys28_ren) { Try.keys28 with } Fence.wide _ trivial rfl (by omega) Bm b nn D0 _ hBm hm hown
  exact AnyZ.sorted_in Try.sorted27 Fence.wide 5 trivial trivial trivial trivial rfl (by omega) (Try.sorts27 _) (enters_of Try.func34 (by kernel_rfl) rfl) 35 #[.pointer (some ⟨Bm, 0, none⟩)] trivial (enters_of Try.func35 (by kernel_rfl) rfl) _ _ hmax hbytes _ hseq
def Ru : Value → Option (DataW Unit × List MemPlace) := fun _ => some (.agg [], [])
def kb (e : MapEntry) : List UInt8 := match e.key with | .string s => s.data.toList | _ => []
def D0of (es : List MapEntry) : DataW Unit := .map ((es.map (Go.WideElems.rg Try.prog 9 Ru)).foldr DataW.insert [])
theorem und9 : Try.prog.underlying 9 = some .string := by kernel_rfl
section
variable {g : ByteArray → Value} {has : ByteArray → Bool} {n : Nat} {es : Array MapEntry} {cl : Nat}
theorem rd_of (h : MapIs g has n es.toList cl) (hk : ∀ s, has s = true → s.size ≤ 1000000) (e : MapEntry) (he : e ∈ es.toList) : Go.WideElems.rd Try.prog 9 Ru e = some (.string (kb e), .agg []) := by
  obtain ⟨s, h1, h2, _⟩ := h.key e he
  have hs : s.size ≤ maxLen := by have := hk s h2; unfold maxLen; omega
  unfold Go.WideElems.rd kb
  rw [h1, Go.WideMaps.keyOf_string_mk und9 hs]; rfl
theorem owns_of {w : World} {b : Nat} (hb : w.heap[b]? = some (.map es cl)) (h : MapIs g has n es.toList cl) (hk : ∀ s, has s = true → s.size ≤ 1000000) (hn : n ≤ 1000000) : w.ownsMap Try.prog 9 Ru b n (D0of es.toList) := by
  have hsz : es.size = n := by simpa using h.len
  refine ⟨es, cl, hb, ⟨by unfold maxLen; omega, ⟨h.born, ?_, ?_⟩, fun x hx => ⟨_, rd_of h hk x hx⟩⟩, by omega, rfl⟩
  · exact List.pairwise_map.2 (h.once.imp fun {a b} hab => hab.2)
  · exact List.pairwise_map.2 (h.once.imp fun {a b} hab => hab.1)
theorem strKeys_of (h : MapIs g has n es.toList cl) (hk : ∀ s, has s = true → s.size ≤ 1000000) : (strKeys (D0of es.toList)).Perm (es.toList.map kb) := by
  unfold D0of strKeys
  refine ((Go.WideShapes.sorted_perm _).map _).trans ?_
  rw [List.map_map]
  refine List.Perm.of_eq (List.map_congr_left fun e he => ?_)
  show Go.strOf (Go.WideElems.rg Try.prog 9 Ru e).1 = kb e
  unfold Go.WideElems.rg
  rw [rd_of h hk e he]; rfl
theorem size_of (h : MapIs g has n es.toList cl) : Maps.size (D0of es.toList) = n := by
  unfold D0of Maps.size
  rw [← h.len]
  simpa using (Go.WideShapes.sorted_perm (es.toList.map (Go.WideElems.rg Try.prog 9 Ru))).length_eq
def KeyL (has : ByteArray → Bool) (l : List (List UInt8)) : Prop := l.Nodup ∧ ∀ x : List UInt8, x ∈ l ↔ has ⟨⟨x⟩⟩ = true
theorem keyL_of (h : MapIs g has n es.toList cl) : KeyL has (es.toList.map kb) := by
  refine ⟨?_, fun x => ?_⟩
  · refine List.pairwise_map.2 ?_
    refine h.once.imp_of_mem fun {a b} ha hb hab => ?_
    obtain ⟨s, h1, _⟩ := h.key a ha
    obtain ⟨t, h2, _⟩ := h.key b hb
    intro e
    unfold kb at e
    rw [h1, h2] at e
    refine hab.1 ?_
    rw [h1, h2]
    exact congrArg _ (ByteArray.ext (Array.ext' e))
  · rw [List.mem_map]
    constructor
    · rintro ⟨e, he, rfl⟩
      obtain ⟨s, h1, h2, _⟩ := h.key e he
      unfold kb; rw [h1]; exact h2
    · intro hx
      obtain ⟨e, he, h1⟩ := h.all _ hx
      exact ⟨e, he, by unfold kb; rw [h1]⟩
end
def sortK (has : ByteArray → Bool) : List (List UInt8) := by
  classical exact if h : ∃ l, KeyL has l then (Classical.choose h).mergeSort leB else []
theorem sortK_eq {has : ByteArray → Bool} {l : List (List UInt8)} (h : KeyL has l) : sortK has = l.mergeSort leB := by
  have hex : ∃ l, KeyL has l := ⟨l, h⟩
  unfold sortK
  rw [dif_pos hex]
  have hc := Classical.choose_spec hex
  refine mergeSort_of_perm ((List.perm_ext_iff_of_nodup hc.1 h.1).2 fun x => ?_)
  rw [hc.2, h.2]
def keyAt (has : ByteArray → Bool) (e : Nat) : ByteArray := ⟨⟨(sortK has).getD e []⟩⟩
def keyR (has : ByteArray → Bool) : Nat → Nat → Value := fun e _ => .string (keyAt has e)
def keyOk (has : ByteArray → Bool) (n : Nat) : Prop := n ≤ 1000000 ∧ ∀ s, has s = true → s.size ≤ 1000000
def sortedE (H : Heap) (args : List Value) : ER :=
  match args with
  | [.func (.func 35) ⟨[]⟩ ⟨[.pointer (some ⟨q, 0, none⟩)]⟩] =>
    match H.get q with
    | some (.cells [.map (some r)] _) =>
      match H.get r with
      | some (.mp _ has n) => bif Nat.blt (H.next + 1) 2147483000 then
          .tst (propB (keyOk has n)) (.tst (Nat.beq n 0) (.val (.slice none 0 0)) (.mem (.slice (some ⟨H.next, 0, none⟩) n capU) (H.new (.fn 1 (keyR has) n 9)))) .no else .no
      | _ => .no
    | _ => .no
  | _ => .no
theorem take_new {ρ : Ly.Ren} {H : Heap} {w w' : World} (hr : Rep ρ H w) (hb : Below w.heap.size w w') (hn : H.next + 1 < big) {gb : Nat} (hg : w.heap.size ≤ gb) {o : LO} {o' : Obj} (hobj : w'.heap[gb]? = some o') (k wd : Nat) (hown : o.own = true) (ho : OR (ρ.ext H.next gb k wd) H.next o o') :
    Rep (ρ.ext H.next gb k wd) (H.new o) w' ∧ Fresh ρ (ρ.ext H.next gb k wd) w ∧ Keep ρ w w' := by
  have hget : ∀ i, (H.new o).get i = if i = H.next then some o else H.get i := fun i => Tr.get_set _ _ _ hr.small i
  have hgl : gb < w'.heap.size := (Array.getElem?_eq_some_iff.1 hobj).1
  have hn1 : (H.new o).next = H.next + 1 := rfl
  have hk : Keep ρ w w' := ⟨hb.os, hb.tape, hb.output, hb.size, fun k hk _ => hb.block k hk⟩
  have hf : Fresh ρ (ρ.ext H.next gb k wd) w := by
    intro i b h
    by_cases e : i = H.next
    · simp only [Ly.Ren.ext] at h; rw [if_pos e] at h; simp at h; subst h; exact .inl hg
    · simp only [Ly.Ren.ext] at h; rw [if_neg e] at h
      exact .inr ⟨i, h, by simp only [Ly.Ren.ext]; rw [if_neg e]; exact id⟩
  refine ⟨⟨hn, ?_, ?_, ?_, ?_, ?_, hr.fix.step hf hk⟩, hf, hk⟩
  · intro i b h
    simp only [Ly.Ren.ext] at h
    rw [hn1]
    split at h
    · rename_i e; subst e; simp at h; subst h; exact ⟨by omega, hgl⟩
    · have := hr.dom i b h; have := hb.size; exact ⟨by omega, by omega⟩
  · intro i j b x hi hx hj h1 h2
    rw [hget] at hi hj
    simp only [Ly.Ren.ext] at h1 h2
    by_cases e1 : i = H.next <;> by_cases e2 : j = H.next
    · omega
    · rw [if_pos e1] at h1; rw [if_neg e2] at h2; simp at h1; have := (hr.dom j b h2).2; omega
    · rw [if_neg e1] at h1; rw [if_pos e2] at h2; simp at h2; have := (hr.dom i b h1).2; omega
    · rw [if_neg e1] at h1 hi; rw [if_neg e2] at h2 hj; exact hr.inj i j b x hi hx hj h1 h2
  · intro i x hx
    rw [hget] at hx
    rw [hn1]
    by_cases e : i = H.next
    · omega
    · rw [if_neg e] at hx; have := hr.lt hx; omega
  · intro i x hx hxo
    rw [hget] at hx
    by_cases e : i = H.next
    · rw [if_pos e] at hx; simp at hx; subst hx; subst e
      exact ⟨fun _ => by simp [Ly.Ren.ext], gb, o', by simp [Ly.Ren.ext], hobj, ho⟩
    · rw [if_neg e] at hx
      obtain ⟨hro, b, y, hb2, hy, hor⟩ := hr.obj i x hx hxo
      have := (hr.dom i b hb2).2
      have hle : Ly.Ren.le ρ (ρ.ext H.next gb k wd) := ⟨fun i x h => by
        have := (hr.dom i x h).1
        refine ⟨?_, ?_, ?_, ?_, ?_⟩ <;> (simp only [Ly.Ren.ext]; rw [if_neg (by omega)]), rfl⟩
      exact ⟨fun hlk => by simp only [Ly.Ren.ext]; rw [if_neg e]; exact hro hlk, b, y, by simp only [Ly.Ren.ext]; rw [if_neg e]; exact hb2, by rw [hb.block b this]; exact hy,
        OR.mono hle (by simp only [Ly.Ren.ext]; rw [if_neg e]) (by simp only [Ly.Ren.ext]; rw [if_neg e]) (by simp only [Ly.Ren.ext]; rw [if_neg e]) _ _ hor⟩
  · intro i k2 g n hx
    rw [hget] at hx
    by_cases e : i = H.next
    · rw [if_pos e] at hx; simp at hx; subst hx; simp [LO.own] at hown
    · rw [if_neg e] at hx
      obtain ⟨hro, har⟩ := hr.arg i k2 g n hx
      have hle : Ly.Ren.le ρ (ρ.ext H.next gb k wd) := ⟨fun i x h => by
        have := (hr.dom i x h).1
        refine ⟨?_, ?_, ?_, ?_, ?_⟩ <;> (simp only [Ly.Ren.ext]; rw [if_neg (by omega)]), rfl⟩
      exact ⟨by simp only [Ly.Ren.ext]; rw [if_neg e]; exact hro, (har.world (fun b hb2 => hb.block b (hr.dom i b hb2).2)).mono hle (by simp only [Ly.Ren.ext]; rw [if_neg e])⟩
end Go.Proofs.Ytobdoejkioenhaa
namespace Go.Proofs.Ytobdoejkioenhaa
open Go Go.Ly Go.RowKit Go.Maps Go.Sort
theorem rep_below {ρ : Ly.Ren} {H : Heap} {w w' : World} (hr : Rep ρ H w) (h : Below w.heap.size w w') : Rep ρ H w' ∧ Keep ρ w w' := by
  have hk : Keep ρ w w' := ⟨h.os, h.tape, h.output, h.size, fun k hk _ => h.block k hk⟩
  refine ⟨⟨hr.small, fun i b e => ⟨(hr.dom i b e).1, Nat.lt_of_lt_of_le (hr.dom i b e).2 h.size⟩, hr.inj, hr.ltn, fun i o ho hown => ?_, fun i k g n ho => ?_, hr.fix.step (Fresh.refl _ _) hk⟩, hk⟩
  · obtain ⟨h1, b, o', h2, h3, h4⟩ := hr.obj i o ho hown
    exact ⟨h1, b, o', h2, by rw [h.block b (hr.dom i b h2).2]; exact h3, h4⟩
  · exact ⟨(hr.arg i k g n ho).1, (hr.arg i k g n ho).2.world fun b hb => h.block b (hr.dom i b hb).2⟩
theorem sorted_good (H : Heap) (args : List Value) : HGood Try.prog 27 args H (sortedE H args) := by
  unfold sortedE
  split
  · rename_i q
    split
    · rename_i r t hq
      split
      · rename_i g has n hg
        cases hnx : Nat.blt (H.next + 1) 2147483000 with
        | false => exact trivial
        | true =>
        simp only [cond_true]
        have hnx' : H.next + 1 < big := by simpa [Nat.blt_eq, big] using hnx
        refine ⟨fun hok => ?_, fun _ => trivial⟩
        obtain ⟨hn, hk⟩ := propB_iff.1 hok
        -- the call, in every world
        have key : ∀ (ρ : Ly.Ren) (args' : List Value) (w : World), VRL ρ [.func (.func 35) ⟨[]⟩ ⟨[.pointer (some ⟨q, 0, none⟩)]⟩] args' → Rep ρ H w →
            Calls Try.prog 27 ⟨args'⟩ w (fun e w' => ∃ (v : Value), e = .returned v ∧ (sortK has).length = n ∧ w'.ownsRow w.heap.size 9 1 v n ((sortK has).map encStr) ∧ (v = .slice none 0 0 ↔ n = 0) ∧ Below w.heap.size w w') := by
          intro ρ args' w ha hr
          simp only [VRL, VR] at ha
          obtain ⟨_, _, ⟨xs', ys', rfl, ⟨_, _, ⟨b, hb, rfl⟩, rfl, rfl⟩, rfl⟩, rfl, rfl⟩ := ha
          obtain ⟨_, b', o', hb', ho, h0, c', hc, rfl⟩ := hr.obj q _ hq rfl
          obtain rfl : b' = b := by rw [hb] at hb'; exact (Option.some.inj hb').symm
          simp only [VRL, VR] at hc
          obtain ⟨_, _, ⟨bm, hbm, rfl⟩, rfl, rfl⟩ := hc
          obtain ⟨_, bm', om, hbm', hom, hm0, hmw, es, cl, rfl, hmap⟩ := hr.obj r _ hg rfl
          obtain rfl : bm' = bm := by rw [hbm] at hbm'; exact (Option.some.inj hbm').symm
          have hat : ρ.at ⟨q, 0, none⟩ = 0 := by unfold Ly.Ren.at; rw [h0]; rfl
          rw [hat]
          have hown := owns_of (w := w) hom hmap hk hn
          have hsz := size_of hmap
          have hcall := callsIn_wide.1 (sorted_any b' bm' n (D0of es.toList) Ru w (hr.dom q b' hb).2 (by simp [World.cell?, ho]) hown (by rw [hsz]; unfold maxLen; omega) (by rw [hsz]; omega))
          refine hcall.mono ?_
          rintro e w' ⟨v, ss, rfl, hp, hrow, hnil, hbel⟩
          have hp2 := hp.trans (strKeys_of hmap hk)
          have hL := keyL_of hmap
          have hkl : KeyL has ss := ⟨hp2.nodup_iff.2 hL.1, fun x => by rw [hp2.mem_iff]; exact hL.2 x⟩
          have hsk : sortK has = ss.mergeSort leB := sortK_eq hkl
          have hlen : ss.length = n := by rw [hp2.length_eq, List.length_map]; exact hmap.len
          refine ⟨v, rfl, by rw [hsk, List.length_mergeSort]; exact hlen, ?_, ?_, hbel⟩
          · rw [hsk, ← hlen]; exact hrow
          · rw [hnil, ← hlen]; exact List.length_eq_zero_iff.symm
        refine ⟨fun h0 => ?_, fun h1 => ?_⟩
        · have h0 := Nat.eq_of_beq_eq_true h0
          intro ρ args' w ha hr
          refine (key ρ args' w ha hr).mono ?_
          rintro e w' ⟨v, rfl, hlen, hrow, hnil, hbel⟩
          obtain rfl := hnil.2 h0
          obtain ⟨k1, k2⟩ := rep_below hr hbel
          exact ⟨ρ, .slice none 0 0, .slice none 0 0, H, rfl, ⟨rfl, rfl⟩, Ren.le_refl _, Fresh.refl _ _, by simp [VR], k1, k2⟩
        · have h1 : n ≠ 0 := Nat.ne_of_beq_eq_false h1
          intro ρ args' w ha hr
          refine (key ρ args' w ha hr).mono ?_
          rintro e w' ⟨v, rfl, hlen, hrow, hnil, hbel⟩
          obtain ⟨hx, ⟨_, hz⟩ | ⟨gb, cap, cur, rfl, hge, hgb, c1, c2, c3, c4⟩⟩ := hrow
          · exact absurd hz h1
          obtain ⟨q1, q2, q3⟩ := take_new hr hbel hnx' hge (o := .fn 1 (keyR has) n 9) hgb cap 1 rfl (by
            refine ⟨by simp [Ly.Ren.ext], by simp [Ly.Ren.ext], cur.toList.take n, cur.toList.drop n, ?_, ?_, ?_, ?_⟩
            · rw [List.take_append_drop]
            · rw [List.length_take, Array.length_toList, c3]; omega
            · rw [← List.length_append, List.take_append_drop, Array.length_toList, c3]; simp [Ly.Ren.ext]
            · rw [Nat.mul_one] at c4
              refine ⟨fun e j he hj => ?_, fun e j he hj => rfl⟩
              have hj0 : j = 0 := by omega
              subst hj0
              refine ⟨.string (keyAt has e), ?_, by simp [keyR, VR]⟩
              have hel : e < (sortK has).length := by omega
              rw [c4, Nat.zero_add, Nat.mul_one, Nat.add_zero, List.getElem?_map, List.getElem?_eq_getElem hel]
              simp [keyAt, encStr, List.getD, List.getElem?_eq_getElem hel])
          refine ⟨_, _, _, _, rfl, ⟨rfl, rfl⟩, ?_, q2, ?_, q1, q3⟩
          · exact ⟨fun i x h => by
              have := (hr.dom i x h).1
              refine ⟨?_, ?_, ?_, ?_, ?_⟩ <;> (simp only [Ly.Ren.ext]; rw [if_neg (by omega)]), rfl⟩
          · simp only [VR]
            refine ⟨_, cap, rfl, c1, fun e => absurd rfl e, fun _ => ⟨gb, by simp [Ly.Ren.ext], ?_, fun _ _ => by simp [Ly.Ren.ext]⟩⟩
            rw [at_start (by simp [Ly.Ren.ext]) (.inl rfl)]
      · exact trivial
    · exact trivial
  · exact trivial
end Go.Proofs.Ytobdoejkioenhaa
namespace Go.Ly
open Go.RowKit
section
variable {P : Program} {C : Ctx} {Q : Value → Heap → Prop} {E : Env}
def SlotW (u u' : Value) : Prop := ∀ (ρ : Ren) (x : Value), VR ρ u x → VR ρ u' x
theorem SlotW.any (u : Value) : SlotW u anyV := fun _ _ _ => VR_any _
def SlotsR (R : Nat → Value → Value → Prop) : List (Nat × Value) → List (Nat × Value) → Prop
  | [], [] => True
  | (i, v) :: r, (j, u) :: s => i = j ∧ R i v u ∧ SlotsR R r s
  | _, _ => False
theorem MWp.objW {S : St} {b : Nat} {o o' : LO} (hg : S.H.get b = some o) (ho : o.own = true) (ho' : o'.own = true) (hb : b < big) (hw : ∀ (ρ : Ren) (x : Obj), OR ρ b o x → OR ρ b o' x) (hs : MWp P { S with H := S.H.put b o' } Q) : MWp P S Q := by
  intro ρ w g gs R hr hf hfs hR
  refine hs ρ w g gs R ?_ hf hfs hR
  have hget : ∀ i, (S.H.put b o').get i = if i = b then some o' else S.H.get i := fun i => Tr.get_set _ _ _ hb i
  refine ⟨hr.small, hr.dom, fun i j c x hi hx hj h1 h2 => ?_, fun i x hi => ?_, fun i x hi hx => ?_, fun i k g n hi => ?_, hr.fix⟩
  · have hi' : ∃ y, S.H.get i = some y ∧ y.own = true := by
      rw [hget] at hi
      split at hi
      · rename_i e; subst e; exact ⟨o, hg, ho⟩
      · exact ⟨x, hi, hx⟩
    have hj' : (S.H.get j).isSome := by
      rw [hget] at hj
      split at hj
      · rename_i e; subst e; rw [hg]; rfl
      · exact hj
    obtain ⟨y, e1, e2⟩ := hi'
    exact hr.inj i j c y e1 e2 hj' h1 h2
  · rw [hget] at hi
    split at hi
    · rename_i e; subst e; exact hr.ltn i o hg
    · exact hr.ltn i x hi
  · rw [hget] at hi
    split at hi
    · rename_i e; subst e
      simp only [Option.some.injEq] at hi; subst hi
      obtain ⟨h1, c, x', h2, h3, h4⟩ := hr.obj i o hg ho
      exact ⟨h1, c, x', h2, h3, hw ρ x' h4⟩
    · exact hr.obj i x hi hx
  · rw [hget] at hi
    split at hi
    · simp only [Option.some.injEq] at hi; subst hi; simp [LO.own] at ho'
    · exact hr.arg i k g n hi
def opAt (S : St) : Option Oper :=
  match S.top.k with
  | .ops all (o :: _) :: _ => bif guardB all S.top.t S.top.fn.ntmps o && dstOk S.top.fn.ntmps o.dst then some o else none
  | _ => none
def ER.Ends (H : Heap) (v : Value) (H' : Heap) : ER → Prop
  | .val u => u = v ∧ H' = H
  | .mem u K => u = v ∧ H' = K
  | .skip K => v = undef ∧ H' = K
  | _ => False
theorem MWp.op {S : St} {o : Oper} {er : ER} {v : Value} {H' : Heap} (h : opAt S = some o) (hg : ∀ (ρ : Ren) (w : World) (g : AF), Rep ρ S.H w → FR ρ S.top g → Next.Good P ρ w ((execOp g.a.eval o).run P w) er) (he : er.Ends S.H v H')
    (hs : MWp P (behind S v H') Q) : MWp P S Q := by
  unfold opAt at h
  split at h
  · rename_i all o' l k hk
    cases hc : (guardB all S.top.t S.top.fn.ntmps o' && dstOk S.top.fn.ntmps o'.dst) with
    | false => rw [hc] at h; cases h
    | true =>
      rw [hc] at h; simp only [cond_true, Option.some.injEq] at h; subst h
      simp only [Bool.and_eq_true] at hc
      intro ρ w g gs R hr hf hfs hR
      unfold stateWp
      rw [hf.k, hk]
      show wpList P all _ (o' :: l) g.a w
      unfold wpList
      rw [guardB_wanted P hf hc.1, if_pos rfl]
      left
      have hgood := hg ρ w g hr hf
      have hput : (putFr S (.ops all l :: k) o'.dst v H').sat P Q := by
        unfold putFr
        rw [hc.2]
        unfold behind at hs
        rw [hk] at hs
        exact hs
      cases er with
      | val u =>
        obtain ⟨rfl, rfl⟩ := he
        obtain ⟨v', hv, hrun⟩ := hgood
        unfold Oper.wp; rw [hrun]
        exact putFr_sound hput hf hfs (Ren.le_refl ρ) (Fresh.refl ρ w) hr (Keep.refl ρ w) hv hR
      | mem u K =>
        obtain ⟨rfl, rfl⟩ := he
        obtain ⟨ρ', v', w', h1, h2, h3, hrun, h5, h6⟩ := hgood
        unfold Oper.wp; rw [hrun]
        exact putFr_sound hput hf hfs h1 h2 h5 h6 h3 hR
      | skip K =>
        obtain ⟨rfl, rfl⟩ := he
        obtain ⟨w', hrun, h5, h6⟩ := hgood
        unfold Oper.wp; rw [hrun]
        exact putFr_sound hput hf hfs (Ren.le_refl ρ) (Fresh.refl ρ w) h5 h6 VR_undef hR
      | call _ _ => exact he.elim
      | tst _ _ _ => exact he.elim
      | no => exact he.elim
  · cases h
end
end Go.Ly
namespace Go.Proofs.Ytobdoejkioenhaa
open Go Go.Ly Go.RowKit
structure Tb where
  has : ByteArray → Bool
  n : ByteArray → Int
  h : ByteArray → Int
  sz : Nat
def mpOf (t : Tb) : LO := .mp (fun s => .agg ⟨[.string s, .int .u16 (t.n s), .int .i64 (t.h s)]⟩) t.has t.sz
def ptr (b : Nat) : Value := .pointer (some ⟨b, 0, none⟩)
end Go.Proofs.Ytobdoejkioenhaa
namespace Go.Proofs.Ytobdoejkioenhaa
open Go Go.Ly Go.RowKit
def symV (s : ByteArray) (n h : Int) : Value := .agg ⟨[.string s, .int .u16 n, .int .i64 h]⟩
end Go.Proofs.Ytobdoejkioenhaa
namespace Go.Proofs.Ytobdoejkioenhaa
open Go Go.Ly Go.RowKit
def ctxS : Ctx := ctxC.withH 27 sortedE
theorem ctxS_ok : ctxS.Ok Try.prog := ctxC_ok.withH sorted_good
def alO (t : Tb) : List (Option LO) := [some (mpOf t), some (.cells [.map (some 0)] 54)]
def alS (t : Tb) : St := Ly.start Try.f12 [ptr 1] (mkH (alO t))
def alD : St := Ly.start Try.f12 [] H0
def alT : Tb := ⟨fun _ => false, fun _ => 0, fun _ => 0, 1⟩
def alK : List KI := ((Ly.run ctxS 37 [(1, true), (0, false)] (alS alT)).st alD).top.k
def alV (n : Nat) (out : Value) (i : Int) : List Value := slots 29 [(0, ptr 1), (2, out), (12, sl 2 n), (13, .int .i64 n), (14, .int .i64 i)]
def alN (t : Tb) : LO := .fn 1 (keyR t.has) t.sz 9
theorem al0 (t : Tb) : headAt [0, 2, 12, 13, 14] [0, 1, 3] alD (Ly.run ctxS 37 [(1, true), (0, false)] (alS t)) = (true, [(propB (keyOk t.has t.sz), true), (Nat.beq t.sz 0, false)], true, (Try.f12, alK, some 11, 2), alV t.sz (.slice none 0 0) 0, alO t ++ [some (alN t)]) := by kernel_rfl
def slo (n : Nat) : Value := .slice (some ⟨3, 0, some 0⟩) n 18446744073709551616
def symL (t : Tb) (e : Nat) : List Value := [.string (keyAt t.has e), .int .u16 (t.n (keyAt t.has e)), .int .i64 (t.h (keyAt t.has e))]
def alB (t : Tb) (i : Int) : List (Bool × Bool) := [(decide (i < (t.sz : Int)), true), (decide (0 ≤ i) && decide (i < (t.sz : Int)), true), (Nat.blt (0 + i.toNat * 1) t.sz, true), (t.has (keyAt t.has (0 + i.toNat * 1)), true)]
def alJ (k : Nat) : Bool × Bool := (true && (Nat.ble (0 + k) k && ((Nat.beq 3 3 && (Nat.beq 41 41 && (Nat.beq k k && true))) && (Nat.ble 1 k && Nat.ble (k + 1) 4294967296))), true)
theorem al1 (t : Tb) (i : Int) (dst : Option Tmp) : headAt [0, 2, 12, 13, 14] [0, 1, 2, 4] alD (Ly.run ctxS 33 [(0, true), (0, true), (0, true), (0, true)] (mkSt Try.f12 alK dst 2 (alV t.sz (.slice none 0 0) i) (alO t ++ [some (alN t)]))) = (true, alB t i, true, (Try.f12, alK, dst, 2), alV t.sz (slo 1) (IntKind.i64.wrap (i + 1)), alO t ++ [some (alN t), some (.fn 3 (lstG 3 1 (symL t (0 + i.toNat * 1))) 1 41)]) := by kernel_rfl
theorem al2 (t : Tb) (i : Int) (dst : Option Tmp) (G : Nat → Nat → Value) (k : Nat) : headAt [0, 2, 12, 13, 14] [0, 1, 2, 5] alD (Ly.run ctxS 33 [(0, true), (0, true), (0, true), (0, true), (0, true)] (mkSt Try.f12 alK dst 2 (alV t.sz (slo k) i) (alO t ++ [some (alN t), some (.fn 3 G k 41)]))) = (true, alB t i ++ [alJ k], true, (Try.f12, alK, dst, 2), alV t.sz (slo (k + 1)) (IntKind.i64.wrap (i + 1)), alO t ++ [some (alN t), some (.fn 3 (joinG k (fun e j => G (0 + e) j) (lstG 3 1 (symL t (0 + i.toNat * 1)))) (k + 1) 41)]) := by kernel_rfl
theorem al3 (t : Tb) (i : Int) (dst : Option Tmp) (G : Nat → Nat → Value) (k : Nat) : endsAt [0, 1, 3] (Ly.run ctxS 200 [(0, false)] (mkSt Try.f12 alK dst 2 (alV t.sz (slo k) i) (alO t ++ [some (alN t), some (.fn 3 G k 41)]))) = some ([(decide (i < (t.sz : Int)), false)], slo k, 4, alO t ++ [some (.fn 3 G k 41)]) := by kernel_rfl
theorem al4 (t : Tb) : endsAt [0, 1] (Ly.run ctxS 200 [(1, true), (0, true)] (alS t)) = some ([(propB (keyOk t.has t.sz), true), (Nat.beq t.sz 0, true)], .slice none 0 0, 3, alO t) := by kernel_rfl
end Go.Proofs.Ytobdoejkioenhaa
namespace Go.Proofs.Ytobdoejkioenhaa
open Go Go.Ly Go.RowKit Go.Sort
theorem tr_app2 : ∀ {a b : List (Bool × Bool)}, trusted a → trusted b → trusted (a ++ b)
  | [], _, _, h => h
  | _ :: _, _, h, h' => ⟨h.1, tr_app2 h.2 h'⟩
structure KeyG (has : ByteArray → Bool) (n : Nat) : Prop where
  len : (sortK has).length = n
  mem : ∀ x : List UInt8, x ∈ sortK has ↔ has ⟨⟨x⟩⟩ = true
  nodup : (sortK has).Nodup
theorem keyG_of {has : ByteArray → Bool} {l : List (List UInt8)} (h : KeyL has l) : KeyG has l.length := by
  have e := sortK_eq h
  have hp : (sortK has).Perm l := by rw [e]; exact List.mergeSort_perm l leB
  exact ⟨hp.length_eq, fun x => by rw [hp.mem_iff]; exact h.2 x, hp.nodup_iff.2 h.1⟩
theorem KeyG.at {has : ByteArray → Bool} {n : Nat} (h : KeyG has n) {e : Nat} (he : e < n) : has (keyAt has e) = true := by
  have hl : e < (sortK has).length := by rw [h.len]; exact he
  unfold keyAt
  rw [List.getD_eq_getElem?_getD, List.getElem?_eq_getElem hl, Option.getD_some]
  exact (h.mem _).1 (List.getElem_mem hl)
theorem MWp.keys {P : Program} {S : St} {Q : Value → Heap → Prop} {b n : Nat} {g : ByteArray → Value} {has : ByteArray → Bool} (hg : S.H.get b = some (.mp g has n)) (hs : KeyG has n → MWp P S Q) : MWp P S Q := by
  intro ρ w gf gs R hr hf hfs hR
  obtain ⟨_, b', o', hb, ho, h0, hwd, es, cl, rfl, hm⟩ := hr.obj b _ hg rfl
  have hk := keyG_of (keyL_of hm)
  rw [List.length_map, hm.len] at hk
  exact hs hk ρ w gf gs R hr hf hfs hR
def symC (t : Tb) (e j : Nat) : Value := ((symL t e)[j]?).getD undef
theorem noBlk_symC (t : Tb) (e j : Nat) : noBlk (symC t e j) := by
  rcases j with _ | _ | _ | j <;> simp [symC, symL, noBlk, blks, undef, blksL]
theorem alJ_ok {k : Nat} (h : 1 ≤ k) (h2 : k ≤ 1000000) : (alJ k).1 = (alJ k).2 := by
  show (true && (Nat.ble (0 + k) k && ((Nat.beq 3 3 && (Nat.beq 41 41 && (Nat.beq k k && true))) && (Nat.ble 1 k && Nat.ble (k + 1) 4294967296)))) = true
  have hb : Nat.beq k k = true := Nat.beq_refl k
  rw [Nat.zero_add, Nat.ble_eq_true_of_le (Nat.le_refl k), hb, Nat.ble_eq_true_of_le h, Nat.ble_eq_true_of_le (show k + 1 ≤ 4294967296 by omega)]; rfl
def AlQ (t : Tb) : Value → Heap → Prop := fun u K => u = slo t.sz ∧ K.next = 4 ∧ K.get 0 = some (mpOf t) ∧ K.get 1 = some (.cells [.map (some 0)] 54) ∧ K.lock = 0 ∧ ∃ G : Nat → Nat → Value, K.get 3 = some (.fn 3 G t.sz 41) ∧ ∀ e j, e < t.sz → j < 3 → G e j = symC t e j
section
variable {t : Tb}
theorem alB_ok (hk : KeyG t.has t.sz) {i : Nat} (hi : i < t.sz) : trusted (alB t (i : Int)) := by
  have hz : 0 + (i : Int).toNat * 1 = i := by omega
  have hi2 : (i : Int) < (t.sz : Int) := by omega
  unfold alB
  rw [hz]
  exact ⟨by simpa using hi2, by simpa using hi2, by rw [Nat.blt_eq]; exact hi, hk.at hi, trivial⟩
theorem plain_al {G : Nat → Nat → Value} {k : Nat} (hG : ∀ e j, noBlk (G e j)) : ∀ o ∈ alO t ++ [some (alN t), some (.fn 3 G k 41)], ∀ x, o = some x → plainO x := by
  intro o ho x hx
  simp only [alO, List.cons_append, List.nil_append, List.mem_cons, List.not_mem_nil, or_false] at ho
  rcases ho with rfl | rfl | rfl | rfl <;> (simp only [Option.some.injEq] at hx; subst hx)
  · exact trivial
  · exact trivial
  · exact fun e j => by simp [keyR, noBlk, blks]
  · exact hG
theorem plain_al0 : ∀ o ∈ alO t ++ [some (alN t)], ∀ x, o = some x → plainO x := by
  intro o ho x hx
  simp only [alO, List.cons_append, List.nil_append, List.mem_cons, List.not_mem_nil, or_false] at ho
  rcases ho with rfl | rfl | rfl <;> (simp only [Option.some.injEq] at hx; subst hx)
  · exact trivial
  · exact trivial
  · exact fun e j => by simp [keyR, noBlk, blks]
theorem al_loop (hk : KeyG t.has t.sz) (hs : t.sz ≤ 1000000) : ∀ (d i : Nat) (G : Nat → Nat → Value) (dst : Option Tmp), 1 ≤ i → i ≤ t.sz → t.sz - i = d → (∀ e j, noBlk (G e j)) → (∀ e j, e < i → j < 3 → G e j = symC t e j) →
    MWp Try.prog (mkSt Try.f12 alK dst 2 (alV t.sz (slo i) (i : Int)) (alO t ++ [some (alN t), some (.fn 3 G i 41)])) (AlQ t)
  | 0, i, G, dst, h1, h2, hd, hn, hG => by
    have : i = t.sz := by omega
    subst this
    refine (MWp.ends ctxS_ok 200 _ (al3 t t.sz dst G t.sz) (by simp [trusted])).mono ?_
    rintro u K ⟨rfl, hnx, hmap, hl⟩
    simp only [alO, List.map_cons, List.map_nil, List.cons_append, List.nil_append, List.cons.injEq, and_true] at hmap
    exact ⟨rfl, hnx, hmap.1, hmap.2.1, hl, G, hmap.2.2, hG⟩
  | d + 1, i, G, dst, h1, h2, hd, hn, hG => by
    have hi : i < t.sz := by omega
    have hw : IntKind.i64.wrap ((i : Int) + 1) = ((i + 1 : Nat) : Int) := by rw [IntKind.wrap_i64]; omega
    have hz : 0 + (i : Int).toNat * 1 = i := by omega
    have hnb : ∀ e j, noBlk (joinG i (fun e j => G (0 + e) j) (lstG 3 1 (symL t (0 + (i : Int).toNat * 1))) e j) := noBlk_join hn (fun e j => by rw [hz]; exact noBlk_symC t i j)
    refine MWp.head ctxS_ok _ _ _ _ (al2 t i dst G i) (tr_app2 (alB_ok hk hi) ⟨alJ_ok h1 (by omega), trivial⟩) (plain_al hnb) ?_
    rw [hw]
    refine al_loop hk hs d (i + 1) _ dst (by omega) (by omega) (by omega) hnb (fun e j he hj => ?_)
    unfold joinG
    rw [vif_eq, hz]
    by_cases hei : e < i
    · rw [show Nat.blt e i = true by rw [Nat.blt_eq]; exact hei]
      show G (0 + e) j = _
      rw [Nat.zero_add]; exact hG e j hei hj
    · have : e = i := by omega
      subst this
      rw [show Nat.blt e e = false from Bool.eq_false_iff.2 fun h => by rw [Nat.blt_eq] at h; omega]
      rfl
end
end Go.Proofs.Ytobdoejkioenhaa
namespace Go.Proofs.Ytobdoejkioenhaa
open Go Go.Ly Go.RowKit Go.Sort
theorem gAl : ctxS.fn.get 12 = some Try.f12 := by kernel_rfl
section
variable {t : Tb}
theorem al_first (hk : KeyG t.has t.sz) (hok : keyOk t.has t.sz) (h0 : t.sz ≠ 0) : MWp Try.prog (alS t) (AlQ t) := by
  have hb : Nat.beq t.sz 0 = false := Bool.eq_false_iff.2 fun e => h0 (Nat.eq_of_beq_eq_true e)
  refine MWp.head ctxS_ok _ _ _ _ (al0 t) ⟨propB_iff.2 hok, hb, trivial⟩ plain_al0 ?_
  have hw : IntKind.i64.wrap ((0 : Int) + 1) = ((1 : Nat) : Int) := by decide
  refine MWp.head ctxS_ok _ _ _ _ (al1 t 0 (some 11)) (alB_ok (i := 0) hk (by omega)) (plain_al (fun e j => noBlk_symC t 0 j)) ?_
  rw [hw]
  refine al_loop hk hok.1 _ 1 _ _ (by omega) (by omega) rfl (fun e j => noBlk_symC t 0 j) (fun e j he hj => ?_)
  have : e = 0 := by omega
  subst this; rfl
theorem al_calls (hok : keyOk t.has t.sz) (h0 : t.sz ≠ 0) : LCalls Try.prog 12 [ptr 1] (mkH (alO t)) (fun u K => u = slo t.sz ∧ K.next = 4 ∧ K.get 0 = some (mpOf t) ∧ K.get 1 = some (.cells [.map (some 0)] 54) ∧ K.lock = 0 ∧ K.get 3 = some (.fn 3 (symC t) t.sz 41)) := by
  refine LCalls_of ctxS_ok gAl (by kernel_rfl) ?_
  show MWp Try.prog (alS t) _
  refine MWp.keys (b := 0) (g := fun s => .agg ⟨[.string s, .int .u16 (t.n s), .int .i64 (t.h s)]⟩) (has := t.has) (n := t.sz) (by kernel_rfl) (fun hk => ?_)
  refine MWp.weakQ (al_first hk hok h0) ?_
  rintro u K ⟨rfl, h1, h2, h3, h4, G, h5, h6⟩
  refine ⟨{ K with m := K.m.set 3 (some (.fn 3 (symC t) t.sz 41)) }, ?_, ?_⟩
  · have hget : ∀ i, Heap.get { K with m := K.m.set 3 (some (.fn 3 (symC t) t.sz 41)) } i = if i = 3 then some (.fn 3 (symC t) t.sz 41) else K.get i := fun i => Tr.get_set _ _ _ (by unfold big; omega) i
    exact ⟨rfl, h1, by rw [hget]; exact h2, by rw [hget]; exact h3, h4, by rw [hget]; rfl⟩
  · refine ⟨rfl, rfl, fun i o ho => ?_⟩
    have hget : Heap.get { K with m := K.m.set 3 (some (.fn 3 (symC t) t.sz 41)) } i = if i = 3 then some (.fn 3 (symC t) t.sz 41) else K.get i := Tr.get_set _ _ _ (by unfold big; omega) i
    rw [hget] at ho
    by_cases e : i = 3
    · subst e
      rw [if_pos rfl] at ho
      simp only [Option.some.injEq] at ho
      subst ho
      exact ⟨_, h5, (.inr (.inr ⟨3, G, symC t, t.sz, 41, rfl, rfl, h6⟩))⟩
    · rw [if_neg e] at ho
      exact ⟨o, ho, OW.refl o⟩
theorem al_calls0 (hok : keyOk t.has t.sz) (h0 : t.sz = 0) : LCalls Try.prog 12 [ptr 1] (mkH (alO t)) (fun u K => u = .slice none 0 0 ∧ K.next = 3 ∧ K.get 0 = some (mpOf t) ∧ K.get 1 = some (.cells [.map (some 0)] 54) ∧ K.lock = 0) := by
  refine LCalls_of ctxS_ok gAl (by kernel_rfl) ?_
  refine (MWp.ends ctxS_ok 200 _ (al4 t) ⟨propB_iff.2 hok, by rw [h0]; rfl, trivial⟩).mono ?_
  rintro u K ⟨rfl, hnx, hmap, hl⟩
  simp only [alO, List.map_cons, List.map_nil, List.cons.injEq, and_true] at hmap
  exact ⟨rfl, hnx, hmap.1, hmap.2, hl⟩
end
def cellAt (v : Value) (j : Nat) : Value := ((cellsL v)[j]?).getD undef
def tbOf (g : ByteArray → Value) (has : ByteArray → Bool) (n : Nat) : Tb := { has := has, n := fun s => numOf (cellAt (g s) 1), h := fun s => numOf (cellAt (g s) 2), sz := n }
def symOk (g : ByteArray → Value) (has : ByteArray → Bool) (n : Nat) : Prop := LO.mp g has n = mpOf (tbOf g has n)
def allE (H : Heap) (args : List Value) : ER :=
  match args with
  | [.pointer (some ⟨p, 0, none⟩)] =>
    match H.get p with
    | some (.cells [.map (some r)] 54) =>
      match H.get r with
      | some (.mp g has n) => bif Nat.beq H.lock 0 && (Nat.blt (H.next + 2) 2147483000 && !(Nat.beq p r)) then
          .tst (propB (keyOk has n ∧ symOk g has n)) (.tst (Nat.beq n 0) (.mem (.slice none 0 0) { m := H.m, next := H.next + 1, lock := H.lock })
            (.mem (.slice (some ⟨H.next + 1, 0, some 0⟩) n 18446744073709551616) { m := H.m.set (H.next + 1) (some (.fn 3 (symC (tbOf g has n)) n 41)), next := H.next + 2, lock := H.lock })) .no else .no
      | _ => .no
    | _ => .no
  | _ => .no
theorem all_good (H : Heap) (args : List Value) : HGood Try.prog 12 args H (allE H args) := by
  unfold allE
  split
  · rename_i p
    split
    · rename_i r hp
      split
      · rename_i g has n hg
        cases hc : (Nat.beq H.lock 0 && (Nat.blt (H.next + 2) 2147483000 && !(Nat.beq p r))) with
        | false => exact trivial
        | true =>
        simp only [cond_true]
        simp only [Bool.and_eq_true, Bool.not_eq_true'] at hc
        have hl := Nat.eq_of_beq_eq_true hc.1
        have hnx : H.next + 2 < 2147483000 := by simpa [Nat.blt_eq] using hc.2.1
        have hpr : p ≠ r := fun e => by rw [e, Nat.beq_refl] at hc; cases hc.2.2
        refine ⟨fun hok => ?_, fun _ => trivial⟩
        obtain ⟨hok, hsy⟩ := propB_iff.1 hok
        let t := tbOf g has n
        let σ : Nat → Nat := fun i => if i = 0 then r else p
        have hnext : (mkH (alO t)).next = 2 := rfl
        have e0 : ext σ 2 H.next 0 = r := by rw [ext_lt (by omega)]; rfl
        have e1 : ext σ 2 H.next 1 = p := by rw [ext_lt (by omega)]; rfl
        have e3 : ext σ 2 H.next 3 = H.next + 1 := by rw [ext_ge (by omega)]
        have hs0 : (mkH (alO t)).get 0 = some (mpOf t) := by kernel_rfl
        have hs1 : (mkH (alO t)).get 1 = some (.cells [.map (some 0)] 54) := by kernel_rfl
        have hsd : ∀ i o, (mkH (alO t)).get i = some o → i < 2 := fun i o h => by
          rcases Nat.lt_or_ge i 2 with h1 | h1
          · exact h1
          · rw [mkH_get _ (by show 2 < big; unfold big; omega), List.getElem?_eq_none (by exact h1)] at h; cases h
        have hfit : Fits σ (mkH (alO t)) H := by
          refine ⟨by rw [hnext]; unfold big; omega, hl, fun i hi => ?_, fun i o h => by rw [hnext]; exact hsd i o h, fun i o h => ?_, fun i j hi hj h => ?_⟩
          · rw [hnext] at hi
            have : i = 0 ∨ i = 1 := by omega
            rcases this with rfl | rfl
            · exact ⟨_, hs0⟩
            · exact ⟨_, hs1⟩
          · rw [hnext]
            have := hsd i o h
            have : i = 0 ∨ i = 1 := by omega
            rcases this with rfl | rfl
            · rw [hs0] at h; obtain rfl := Option.some.inj h
              show H.get r = some (mpOf t)
              rw [hg, hsy]
            · rw [hs1] at h; obtain rfl := Option.some.inj h
              show H.get p = some (renO _ (.cells [.map (some 0)] 54))
              rw [hp]
              simp only [renO, renL, renV, e0]
          · rw [hnext] at hi hj
            have : i = 0 ∨ i = 1 := by omega
            have : j = 0 ∨ j = 1 := by omega
            rcases ‹i = 0 ∨ i = 1› with rfl | rfl <;> rcases ‹j = 0 ∨ j = 1› with rfl | rfl
            · rfl
            · exact absurd h.symm hpr
            · exact absurd h hpr
            · rfl
        have old : ∀ (Hs' : Heap), Hs'.get 0 = some (mpOf t) → Hs'.get 1 = some (.cells [.map (some 0)] 54) → ∀ k o, H.get k = some o → (∃ i os, ext σ 2 H.next i = k ∧ Hs'.get i = some os ∧ o = renO (ext σ 2 H.next) os) ∨ ((∀ i, i < 2 → σ i ≠ k) ∧ H.get k = some o) := by
          intro Hs' h1 h2 k o ho
          by_cases er : k = r
          · subst er
            rw [hg, hsy] at ho
            exact .inl ⟨0, _, e0, h1, (Option.some.inj ho).symm⟩
          · by_cases ep : k = p
            · subst ep
              rw [hp] at ho
              refine .inl ⟨1, _, e1, h2, ?_⟩
              rw [← Option.some.inj ho]
              simp only [renO, renL, renV, e0]
            · refine .inr ⟨fun i hi => ?_, ho⟩
              have : i = 0 ∨ i = 1 := by omega
              rcases this with rfl | rfl
              · exact fun e => er e.symm
              · exact fun e => ep e.symm
        have hargs : renL (ext σ (mkH (alO t)).next H.next) [ptr 1] = [.pointer (some ⟨p, 0, none⟩)] := by
          rw [hnext]; simp only [renL, ptr, renV, e1]
        refine ⟨fun h0 => ?_, fun h1 => ?_⟩
        · have h0 : t.sz = 0 := Nat.eq_of_beq_eq_true h0
          have hf := LCalls.frame (H := H) (σ := σ) (Q := fun u K => u = .slice none 0 0 ∧ K = { m := H.m, next := H.next + 1, lock := H.lock }) (al_calls0 (t := t) hok h0) hfit (by
            rintro vs Hs' ⟨rfl, k1, k2, k3, k4⟩
            refine ⟨_, ⟨k4, by rw [hnext]; omega, by rw [hnext, k1]; show H.next + (3 - 2) ≤ H.next + 1; omega, by show H.next + 1 < big; unfold big; omega, fun k o ho => ?_⟩, by simp [renV], rfl⟩
            rw [hnext]; exact old Hs' k2 k3 k o ho)
          rw [hargs] at hf
          exact hf
        · have h1 : t.sz ≠ 0 := Nat.ne_of_beq_eq_false h1
          have hf := LCalls.frame (H := H) (σ := σ) (Q := fun u K => u = .slice (some ⟨H.next + 1, 0, some 0⟩) n 18446744073709551616 ∧ K = { m := H.m.set (H.next + 1) (some (.fn 3 (symC t) n 41)), next := H.next + 2, lock := H.lock }) (al_calls (t := t) hok h1) hfit (by
            rintro vs Hs' ⟨rfl, k1, k2, k3, k4, k5⟩
            refine ⟨_, ⟨k4, by rw [hnext]; omega, by rw [hnext, k1]; show H.next + (4 - 2) ≤ H.next + 2; omega, by show H.next + 2 < big; unfold big; omega, fun k o ho => ?_⟩, by rw [hnext]; simp only [slo, renV, e3]; rfl, rfl⟩
            rw [hnext]
            have hget : (Heap.get { m := H.m.set (H.next + 1) (some (.fn 3 (symC t) n 41)), next := H.next + 2, lock := H.lock } k) = if k = H.next + 1 then some (.fn 3 (symC t) n 41) else H.get k := Tr.get_set _ _ _ (by unfold big; omega) k
            rw [hget] at ho
            by_cases e : k = H.next + 1
            · rw [if_pos e] at ho
              refine .inl ⟨3, _, by rw [e3, e], k5, ?_⟩
              rw [← Option.some.inj ho]; rfl
            · rw [if_neg e] at ho
              exact old Hs' k2 k3 k o ho)
          rw [hargs] at hf
          exact hf
      · exact trivial
    · exact trivial
  · exact trivial
end Go.Proofs.Ytobdoejkioenhaa
namespace Go.Ly
open Go.RowKit
section
variable {P : Program} {ρ : Ren} {H : Heap} {w w' : World}
def rowsC (k : Nat) (mk : Nat → (Nat → Nat → Value) → List Value → Bool × Value) (H : Heap) (args : List Value) : ER :=
  match args with
  | x :: rest =>
    match srcR H k x with
    | some (g1, u) => .tst (g1 && (u.csts && (plainL rest && (mk u.n (u.fun k) rest).1))) (.val (mk u.n (u.fun k) rest).2) .no
    | none => .no
  | _ => .no
theorem rowsC_good {k : Nat} {f : FuncId} {mk : Nat → (Nat → Nat → Value) → List Value → Bool × Value} (hp : ∀ n G r, plain (mk n G r).2 = true)
    (hS : ∀ n G r, plainL r = true → (mk n G r).1 = true → LCalls P f (sls 0 n :: r) (mkH [some (.arg k G n)]) (fun u _ => u = (mk n G r).2))
    (hN : ∀ G r, plainL r = true → (mk 0 G r).1 = true → LCalls P f (.slice none 0 0 :: r) (mkH []) (fun u _ => u = (mk 0 G r).2))
    (args : List Value) (ρ : Ren) (args' : List Value) (w : World) (H : Heap) (ha : VRL ρ args args') (hr : Rep ρ H w) : ConGood P ρ f args' w (rowsC k mk H args) := by
  unfold rowsC
  haveI := hr.fix.w
  split
  · rename_i x rest
    simp only [VRL] at ha
    obtain ⟨x', r', hx, hr', rfl⟩ := ha
    cases h1 : srcR H k x with
    | none => exact trivial
    | some gu =>
      obtain ⟨g1, u⟩ := gu
      simp only
      refine ⟨fun hg => ?_, fun _ => trivial⟩
      simp only [Bool.and_eq_true] at hg
      obtain ⟨e1, e2, e3, e4⟩ := hg
      obtain rfl := plainL_eq e3 hr'
      refine ⟨_, plain_VR _ (hp _ _ _), ?_⟩
      rcases nil_or h1 with ⟨rfl, rfl⟩ | ⟨a, n, c, rfl⟩
      · simp only [VR] at hx; subst hx
        exact calls_ro (ρ := rowsRen []) (hN _ r' e3 e4) (hp _ _ _) (by simp only [VRL]; exact ⟨_, _, by simp [VR], plainL_VR _ e3, rfl⟩) (rows_rep (rs := []) rfl (by simp) (by simp) (by simp)) (fun _ => rfl)
      · obtain ⟨hun, p, hrow⟩ := view_rows hr hx h1 e1 e2
        rw [hun] at e4 ⊢
        refine calls_ro (ρ := rowsRenW [p] (fun _ => k)) (hS n (u.fun k) r' e3 e4) (hp _ _ _) (by simp only [VRL]; exact ⟨x', _, VR_sls (slW_VR hrow (by simp)), plainL_VR _ e3, rfl⟩)
            (rowsW_rep (l := [p]) (rs := [(k, u.fun k, n)]) rfl (by simp) (by
              intro i q hq
              rcases i with _ | i
              · simp at hq; exact hrow.low q hq
              · simp at hq) (by
              intro i k2 g2 n2 h0
              rcases i with _ | i
              · simp at h0; obtain ⟨rfl, rfl, rfl⟩ := h0
                refine ⟨rfl, fun e j he hj => ⟨hrow.one e j he hj, ?_⟩⟩
                obtain ⟨q, h3, h4⟩ := hrow.cell e j he hj
                exact ⟨q, by simp [h3], h4⟩
              · simp at h0)) (fun _ => rfl)
  · exact trivial
theorem VR_sl_of {i n : Nat} {v : Value} (h : VR ρ (sls i n) v) : VR ρ (sl i n) v := by
  have e : ρ.at ⟨i, 0, some 0⟩ = ρ.at ⟨i, 0, none⟩ := by simp [Ren.at]
  simp only [sl, sls, VR] at h ⊢
  rw [← e]; exact h
theorem LCalls.unsp {f : FuncId} {args : List Value} {r N : Nat} {R : Heap → Prop} (h : LCalls P f args H (fun u K => u = sls r N ∧ R K)) : LCalls P f args H (fun u K => u = sl r N ∧ R K) := by
  intro ρ args' w ha hr
  refine (h ρ args' w ha hr).mono ?_
  rintro e w' ⟨ρ', v, v', H', rfl, ⟨rfl, h1⟩, h2, h3, h4, h5, h6⟩
  exact ⟨ρ', _, v', H', rfl, ⟨rfl, h1⟩, h2, h3, VR_sl_of h4, h5, h6⟩
def rowNewS (k : Nat) (mk : Nat → (Nat → Nat → Value) → Bool × (Nat → Nat → Value)) (k' : Nat) (t : TypeId) (H : Heap) (args : List Value) : ER :=
  match args with
  | [x] =>
    match srcR H k x with
    | some (g1, u) => bif Nat.beq H.lock 0 && Nat.blt (H.next + 1) 2147483000 then
        .tst (g1 && (u.csts && (mk u.n (u.fun k)).1)) (.tst (Nat.beq u.n 0) (.val (.slice none 0 0)) (.mem (sls H.next u.n) (H.new (.fn k' (mk u.n (u.fun k)).2 u.n t)))) .no else .no
    | none => .no
  | _ => .no
theorem rowNewS_good {k k' : Nat} {t : TypeId} {f : FuncId} {mk : Nat → (Nat → Nat → Value) → Bool × (Nat → Nat → Value)} (hp : 0 < k)
    (hS : ∀ n G, (mk n G).1 = true → n ≠ 0 → ∃ r, LCalls P f [sls 0 n] (mkH [some (.arg k G n)]) (fun u K => u = sls r n ∧ K.get r = some (.fn k' (mk n G).2 n t) ∧ K.lock = 0))
    (hZ : ∀ G, (mk 0 G).1 = true → LCalls P f [sls 0 0] (mkH [some (.arg k G 0)]) (fun u _ => u = .slice none 0 0))
    (hN : LCalls P f [.slice none 0 0] (mkH []) (fun u _ => u = .slice none 0 0))
    (H : Heap) (args : List Value) : HGood P f args H (rowNewS k mk k' t H args) := by
  unfold rowNewS
  split
  · rename_i x
    cases h1 : srcR H k x with
    | none => exact trivial
    | some gu =>
      obtain ⟨g1, u⟩ := gu
      simp only
      cases hb0 : (Nat.beq H.lock 0 && Nat.blt (H.next + 1) 2147483000) with
      | false => exact trivial
      | true =>
        rw [Bool.and_eq_true] at hb0
        have hb : H.next + 1 < big := by have := hb0.2; unfold big; simpa [Nat.blt_eq] using this
        refine ⟨fun hg => ⟨fun h0 => ?_, fun h0 => ?_⟩, fun _ => trivial⟩
        all_goals
          simp only [Bool.and_eq_true] at hg
          obtain ⟨e1, e2, e3⟩ := hg
          intro ρ args' w ha hr
          haveI := hr.fix.w
          simp only [VRL] at ha
          obtain ⟨x', _, hx, rfl, rfl⟩ := ha
        · have h0 := Nat.eq_of_beq_eq_true h0
          have fin : ∀ {a' : List Value}, Calls P f ⟨a'⟩ w (fun e w' => e = .returned (.slice none 0 0) ∧ Below w.heap.size w w') → Calls P f ⟨a'⟩ w (fun e w' => ∃ ρ' v v' H', e = .returned v' ∧ (v = .slice none 0 0 ∧ H' = H) ∧ Ren.le ρ ρ' ∧ Fresh ρ ρ' w ∧ VR ρ' v v' ∧ Rep ρ' H' w' ∧ Keep ρ w w') := by
            intro a' hc
            refine hc.mono ?_
            rintro e w' ⟨rfl, hbl⟩
            exact ⟨ρ, _, _, H, rfl, ⟨rfl, rfl⟩, Ren.le_refl _, Fresh.refl _ _, by simp [VR], hr.below hbl, Below.toKeep hbl⟩
          rcases nil_or h1 with ⟨rfl, rfl⟩ | ⟨a, n, c, rfl⟩
          · simp only [VR] at hx; subst hx
            exact fin (calls_ro (ρ := rowsRen []) hN (by simp [plain]) (by simp [VRL, VR]) (rows_rep (rs := []) rfl (by simp) (by simp) (by simp)) (fun _ => rfl))
          · obtain ⟨hun, p, hrow⟩ := view_rows hr hx h1 e1 e2
            have hn : n = 0 := by omega
            subst hn
            rw [hun] at e3
            refine fin (calls_ro (ρ := rowsRenW [p] (fun _ => k)) (hZ _ e3) (by simp [plain]) (by simp only [VRL]; exact ⟨x', [], VR_sls (slW_VR hrow (by simp)), rfl, rfl⟩)
              (rowsW_rep (l := [p]) (rs := [(k, u.fun k, 0)]) rfl (by simp) (by
                intro i q hq
                rcases i with _ | i
                · simp at hq; exact hrow.low q hq
                · simp at hq) (by
                intro i k2 g2 n2 h0
                rcases i with _ | i
                · simp at h0; obtain ⟨rfl, rfl, rfl⟩ := h0
                  exact ⟨rfl, fun e j he hj => by omega⟩
                · simp at h0)) (fun _ => rfl))
        · have h0 : u.n ≠ 0 := fun e => by rw [e] at h0; cases h0
          rcases nil_or h1 with ⟨rfl, rfl⟩ | ⟨a, n, c, rfl⟩
          · exact absurd rfl h0
          · obtain ⟨hun, p, hrow⟩ := view_rows hr hx h1 e1 e2
            rw [hun] at e3 h0 ⊢
            obtain ⟨r, hL⟩ := hS n _ e3 h0
            refine (calls_new (ρ1 := rowsRenW [p] (fun _ => k)) hL.unsp (by simp only [VRL]; exact ⟨x', [], VR_sls (slW_VR hrow (by simp)), rfl, rfl⟩)
              (rowsW_rep (l := [p]) (rs := [(k, u.fun k, n)]) rfl (by simp) (by
                intro i q hq
                rcases i with _ | i
                · simp at hq; exact hrow.low q hq
                · simp at hq) (by
                intro i k2 g2 n2 h0
                rcases i with _ | i
                · simp at h0; obtain ⟨rfl, rfl, rfl⟩ := h0
                  refine ⟨rfl, fun e j he hj => ⟨hrow.one e j he hj, ?_⟩⟩
                  obtain ⟨q, h3, h4⟩ := hrow.cell e j he hj
                  exact ⟨q, by simp [h3], h4⟩
                · simp at h0)) (fun _ => rfl) hr hb).mono ?_
            rintro e w' ⟨ρ', v, v', H', rfl, ⟨rfl, rfl⟩, q1, q2, q3, q4, q5⟩
            exact ⟨ρ', _, v', _, rfl, ⟨rfl, rfl⟩, q1, q2, VR_sls q3, q4, q5⟩
  · exact trivial
end
end Go.Ly
namespace Go.Proofs.Ytobdoejkioenhaa
open Go Go.Ly Go.RowKit
def symF (nm : Nat → ByteArray) (ns hs : Nat → Int) : Nat → Nat → Value := fun e j => match j with
  | 0 => .string (nm e)
  | 1 => .int .u16 (ns e)
  | 2 => .int .i64 (hs e)
  | _ => undef
def bkD : St := Ly.start Try.f14 [] H0
def bkS (nm : Nat → ByteArray) (ns hs : Nat → Int) (n : Nat) : St := Ly.start Try.f14 [sls 0 n] (mkH [some (.arg 3 (symF nm ns hs) n)])
def bkN : Nat → ByteArray := fun _ => ⟨⟨[]⟩⟩
def bkZ : Nat → Int := fun _ => 0
def bkK : List KI := ((Ly.run ctxS 15 [] (bkS bkN bkZ bkZ 0)).st bkD).top.k
def bkV (n : Nat) (out : Value) (i : Int) : List Value := slots 31 [(0, sls 0 n), (3, out), (4, .int .i64 i)]
theorem bk0 (nm : Nat → ByteArray) (ns hs : Nat → Int) (n : Nat) : headAt [0, 3, 4] [0] bkD (Ly.run ctxS 15 [] (bkS nm ns hs n)) = (true, [], true, (Try.f14, bkK, none, 1), bkV n (.slice none 0 0) 0, [some (.arg 3 (symF nm ns hs) n)]) := by kernel_rfl
def bkB (n : Nat) (i : Int) : List (Bool × Bool) := [(decide (i < (n : Int)), true), (decide (0 ≤ i) && decide (i < (n : Int)), true), (Nat.blt (0 + i.toNat) n, true), (decide (0 ≤ i) && decide (i < (n : Int)), true), (Nat.blt (0 + i.toNat) n, true), (decide (0 ≤ i) && decide (i < (n : Int)), true), (Nat.blt (0 + i.toNat) n, true)]
def bkJ (k : Nat) : Bool × Bool := (true && (Nat.ble (0 + k) k && ((Nat.beq 3 3 && (Nat.beq 24 24 && (Nat.beq k k && true))) && (Nat.ble 1 k && Nat.ble (k + 1) 4294967296))), true)
def bkP : Path := [(0, true), (0, true), (0, true), (0, true), (0, true), (0, true), (0, true)]
def bkL (nm : Nat → ByteArray) (ns hs : Nat → Int) (e : Nat) : List Value := [.string (nm e), .int .u16 (ns e), .int .i64 (hs e)]
theorem bk1 (nm : Nat → ByteArray) (ns hs : Nat → Int) (n : Nat) (i : Int) : headAt [0, 3, 4] [0, 2] bkD (Ly.run ctxS 20 bkP (mkSt Try.f14 bkK none 1 (bkV n (.slice none 0 0) i) [some (.arg 3 (symF nm ns hs) n)])) = (true, bkB n i, true, (Try.f14, bkK, none, 1), bkV n (sls 1 1) (IntKind.i64.wrap (i + 1)), [some (.arg 3 (symF nm ns hs) n), some (.fn 3 (lstG 3 1 (bkL nm ns hs (0 + i.toNat))) 1 24)]) := by kernel_rfl
theorem bk2 (nm : Nat → ByteArray) (ns hs : Nat → Int) (n : Nat) (i : Int) (G : Nat → Nat → Value) (k : Nat) : headAt [0, 3, 4] [0, 3] bkD (Ly.run ctxS 20 (bkP ++ [(0, true)]) (mkSt Try.f14 bkK none 1 (bkV n (sls 1 k) i) [some (.arg 3 (symF nm ns hs) n), some (.fn 3 G k 24)])) = (true, bkB n i ++ [bkJ k], true, (Try.f14, bkK, none, 1), bkV n (sls 1 (k + 1)) (IntKind.i64.wrap (i + 1)), [some (.arg 3 (symF nm ns hs) n), some (.fn 3 (joinG k (fun e j => G (0 + e) j) (lstG 3 1 (bkL nm ns hs (0 + i.toNat)))) (k + 1) 24)]) := by kernel_rfl
theorem bk3 (nm : Nat → ByteArray) (ns hs : Nat → Int) (n : Nat) (i : Int) (G : Nat → Nat → Value) (k : Nat) : endsAt [1] (Ly.run ctxS 200 [(0, false)] (mkSt Try.f14 bkK none 1 (bkV n (sls 1 k) i) [some (.arg 3 (symF nm ns hs) n), some (.fn 3 G k 24)])) = some ([(decide (i < (n : Int)), false)], sls 1 k, 2, [some (.fn 3 G k 24)]) := by kernel_rfl
theorem bk4 (G : Nat → Nat → Value) : endsAt [] (Ly.run ctxS 200 [] (Ly.start Try.f14 [sls 0 0] (mkH [some (.arg 3 G 0)]))) = some ([], .slice none 0 0, 1, []) := by kernel_rfl
theorem bk5 : endsAt [] (Ly.run ctxS 200 [] (Ly.start Try.f14 [.slice none 0 0] (mkH []))) = some ([], .slice none 0 0, 0, []) := by kernel_rfl
end Go.Proofs.Ytobdoejkioenhaa
namespace Go.Proofs.Ytobdoejkioenhaa
open Go Go.Ly Go.RowKit
def strAt : Value → ByteArray
  | .string s => s
  | _ => ⟨⟨[]⟩⟩
def isSym (G : Nat → Nat → Value) (n : Nat) : Prop := n ≤ 1000000 ∧ ∀ e, e < n → ∃ s a b, G e 0 = .string s ∧ G e 1 = .int .u16 a ∧ G e 2 = .int .i64 b
def asSym (G : Nat → Nat → Value) : Nat → Nat → Value := symF (fun e => strAt (G e 0)) (fun e => numOf (G e 1)) (fun e => numOf (G e 2))
theorem asSym_eq {G : Nat → Nat → Value} {n : Nat} (h : isSym G n) : ∀ e j, e < n → j < 3 → G e j = asSym G e j := by
  intro e j he hj
  obtain ⟨s, a, b, h0, h1, h2⟩ := h.2 e he
  have : j = 0 ∨ j = 1 ∨ j = 2 := by omega
  rcases this with rfl | rfl | rfl <;> simp [asSym, symF, strAt, numOf, h0, h1, h2]
theorem noBlk_symF (nm : Nat → ByteArray) (ns hs : Nat → Int) (e j : Nat) : noBlk (symF nm ns hs e j) := by
  rcases j with _ | _ | _ | j <;> simp [symF, noBlk, blks, undef, blksL]
theorem lst_symF (nm : Nat → ByteArray) (ns hs : Nat → Int) (e x j : Nat) (hj : j < 3) : lstG 3 1 (bkL nm ns hs e) x j = symF nm ns hs e j := by
  have : j = 0 ∨ j = 1 ∨ j = 2 := by omega
  rcases this with rfl | rfl | rfl <;> rfl
theorem noBlk_bkL (nm : Nat → ByteArray) (ns hs : Nat → Int) (e x j : Nat) : noBlk (lstG 3 1 (bkL nm ns hs e) x j) := by
  rcases j with _ | _ | _ | j <;> simp [lstG, bkL, noBlk, blks, undef, blksL]
theorem bkJ_ok {k : Nat} (h : 1 ≤ k) (h2 : k ≤ 1000000) : (bkJ k).1 = (bkJ k).2 := by
  show (true && (Nat.ble (0 + k) k && ((Nat.beq 3 3 && (Nat.beq 24 24 && (Nat.beq k k && true))) && (Nat.ble 1 k && Nat.ble (k + 1) 4294967296)))) = true
  have hb : Nat.beq k k = true := Nat.beq_refl k
  rw [Nat.zero_add, Nat.ble_eq_true_of_le (Nat.le_refl k), hb, Nat.ble_eq_true_of_le h, Nat.ble_eq_true_of_le (show k + 1 ≤ 4294967296 by omega)]; rfl
section
variable {nm : Nat → ByteArray} {ns hs : Nat → Int} {n : Nat}
theorem bkB_ok {i : Nat} (hi : i < n) : trusted (bkB n (i : Int)) := by
  have hz : 0 + (i : Int).toNat = i := by omega
  have hi2 : (i : Int) < (n : Int) := by omega
  unfold bkB
  rw [hz]
  have h1 : decide ((i : Int) < (n : Int)) = true := decide_eq_true hi2
  have h2 : (decide (0 ≤ (i : Int)) && decide ((i : Int) < (n : Int))) = true := by simpa using hi2
  have h3 : Nat.blt i n = true := by rw [Nat.blt_eq]; exact hi
  exact ⟨h1, h2, h3, h2, h3, h2, h3, trivial⟩
theorem plain_bk {G : Nat → Nat → Value} {k : Nat} (hG : ∀ e j, noBlk (G e j)) : ∀ o ∈ [some (LO.arg 3 (symF nm ns hs) n), some (LO.fn 3 G k 24)], ∀ x, o = some x → plainO x := by
  intro o ho x hx
  simp only [List.mem_cons, List.not_mem_nil, or_false] at ho
  rcases ho with rfl | rfl <;> (simp only [Option.some.injEq] at hx; subst hx)
  · exact noBlk_symF nm ns hs
  · exact hG
theorem plain_bk0 : ∀ o ∈ [some (LO.arg 3 (symF nm ns hs) n)], ∀ x, o = some x → plainO x := by
  intro o ho x hx
  simp only [List.mem_cons, List.not_mem_nil, or_false] at ho
  subst ho
  simp only [Option.some.injEq] at hx; subst hx
  exact noBlk_symF nm ns hs
theorem bk_loop (hs' : n ≤ 1000000) : ∀ (d i : Nat) (G : Nat → Nat → Value), 1 ≤ i → i ≤ n → n - i = d → (∀ e j, noBlk (G e j)) → (∀ e j, e < i → j < 3 → G e j = symF nm ns hs e j) →
    MWp Try.prog (mkSt Try.f14 bkK none 1 (bkV n (sls 1 i) (i : Int)) [some (.arg 3 (symF nm ns hs) n), some (.fn 3 G i 24)]) (fun u K => u = sls 1 n ∧ K.next = 2 ∧ K.lock = 0 ∧ ∃ G : Nat → Nat → Value, K.get 1 = some (.fn 3 G n 24) ∧ ∀ e j, e < n → j < 3 → G e j = symF nm ns hs e j)
  | 0, i, G, h1, h2, hd, hn, hG => by
    have : i = n := by omega
    subst this
    refine (MWp.ends ctxS_ok 200 _ (bk3 nm ns hs i i G i) (by simp [trusted])).mono ?_
    rintro u K ⟨rfl, hnx, hmap, hl⟩
    simp only [List.map_cons, List.map_nil, List.cons.injEq, and_true] at hmap
    exact ⟨rfl, hnx, hl, G, hmap, hG⟩
  | d + 1, i, G, h1, h2, hd, hn, hG => by
    have hi : i < n := by omega
    have hw : IntKind.i64.wrap ((i : Int) + 1) = ((i + 1 : Nat) : Int) := by rw [IntKind.wrap_i64]; omega
    have hz : 0 + (i : Int).toNat = i := by omega
    have hnb : ∀ e j, noBlk (joinG i (fun e j => G (0 + e) j) (lstG 3 1 (bkL nm ns hs (0 + (i : Int).toNat))) e j) := noBlk_join hn (fun e j => noBlk_bkL nm ns hs _ e j)
    refine MWp.head ctxS_ok _ _ _ _ (bk2 nm ns hs n i G i) (tr_app2 (bkB_ok hi) ⟨bkJ_ok h1 (by omega), trivial⟩) (plain_bk hnb) ?_
    rw [hw]
    refine bk_loop hs' d (i + 1) _ (by omega) (by omega) (by omega) hnb (fun e j he hj => ?_)
    unfold joinG
    rw [vif_eq, hz]
    by_cases hei : e < i
    · rw [show Nat.blt e i = true by rw [Nat.blt_eq]; exact hei]
      show G (0 + e) j = _
      rw [Nat.zero_add]; exact hG e j hei hj
    · have : e = i := by omega
      subst this
      rw [show Nat.blt e e = false from Bool.eq_false_iff.2 fun h => by rw [Nat.blt_eq] at h; omega]
      exact lst_symF nm ns hs e (e - e) j hj
theorem gBk : ctxS.fn.get 14 = some Try.f14 := by kernel_rfl
theorem bk_calls (hs' : n ≤ 1000000) (h0 : n ≠ 0) : LCalls Try.prog 14 [sls 0 n] (mkH [some (.arg 3 (symF nm ns hs) n)]) (fun u K => u = sls 1 n ∧ K.get 1 = some (.fn 3 (symF nm ns hs) n 24) ∧ K.lock = 0) := by
  refine LCalls_of ctxS_ok gBk (by kernel_rfl) ?_
  refine MWp.weakQ (Q := fun u K => u = sls 1 n ∧ K.next = 2 ∧ K.lock = 0 ∧ ∃ G : Nat → Nat → Value, K.get 1 = some (.fn 3 G n 24) ∧ ∀ e j, e < n → j < 3 → G e j = symF nm ns hs e j) ?_ ?_
  · refine MWp.head ctxS_ok _ _ _ _ (bk0 nm ns hs n) trivial plain_bk0 ?_
    have hw : IntKind.i64.wrap ((0 : Int) + 1) = ((1 : Nat) : Int) := by decide
    refine MWp.head ctxS_ok _ _ _ _ (bk1 nm ns hs n 0) (bkB_ok (i := 0) (by omega)) (plain_bk (fun e j => noBlk_bkL nm ns hs _ e j)) ?_
    rw [hw]
    refine bk_loop hs' _ 1 _ (by omega) (by omega) rfl (fun e j => noBlk_bkL nm ns hs _ e j) (fun e j he hj => ?_)
    have : e = 0 := by omega
    subst this
    exact lst_symF nm ns hs 0 0 j hj
  · rintro u K ⟨rfl, h1, h2, G, h3, h4⟩
    refine ⟨{ K with m := K.m.set 1 (some (.fn 3 (symF nm ns hs) n 24)) }, ?_, ?_⟩
    · have hget : Heap.get { K with m := K.m.set 1 (some (.fn 3 (symF nm ns hs) n 24)) } 1 = some (.fn 3 (symF nm ns hs) n 24) := (Tr.get_set _ _ _ (by unfold big; omega) 1).trans (if_pos rfl)
      exact ⟨rfl, hget, h2⟩
    · refine ⟨rfl, rfl, fun i o ho => ?_⟩
      have hget : Heap.get { K with m := K.m.set 1 (some (.fn 3 (symF nm ns hs) n 24)) } i = if i = 1 then some (.fn 3 (symF nm ns hs) n 24) else K.get i := Tr.get_set _ _ _ (by unfold big; omega) i
      rw [hget] at ho
      by_cases e : i = 1
      · subst e
        rw [if_pos rfl] at ho
        simp only [Option.some.injEq] at ho
        subst ho
        exact ⟨_, h3, (.inr (.inr ⟨3, G, symF nm ns hs, n, 24, rfl, rfl, h4⟩))⟩
      · rw [if_neg e] at ho
        exact ⟨o, ho, OW.refl o⟩
end
def bkMk (n : Nat) (G : Nat → Nat → Value) : Bool × (Nat → Nat → Value) := (propB (isSym G n), asSym G)
def backE : Heap → List Value → ER := rowNewS 3 bkMk 3 24
theorem back_good (H : Heap) (args : List Value) : HGood Try.prog 14 args H (backE H args) := by
  refine rowNewS_good (by decide) (fun n G h h0 => ⟨1, ?_⟩) (fun G h => ?_) ?_ H args
  · have hS := propB_iff.1 h
    exact LCalls.argEq (asSym_eq hS) (bk_calls hS.1 h0)
  · exact LCalls_of ctxS_ok gBk (by kernel_rfl) ((MWp.ends ctxS_ok 200 _ (bk4 G) trivial).mono fun u K h => h.1)
  · exact LCalls_of ctxS_ok gBk (by kernel_rfl) ((MWp.ends ctxS_ok 200 _ bk5 trivial).mono fun u K h => h.1)
end Go.Proofs.Ytobdoejkioenhaa
namespace Go.Proofs.Ytobdoejkioenhaa
open Go Go.Ly Go.RowKit
def saD : St := Ly.start Try.f13 [] H0
def saO (G G' : Nat → Nat → Value) (n m : Nat) : List (Option LO) := [some (.arg 3 G n), some (.arg 3 G' m)]
def saS (G G' : Nat → Nat → Value) (n m : Nat) : St := Ly.start Try.f13 [sls 0 n, sls 1 m] (mkH (saO G G' n m))
def saK : List KI := ((Ly.run ctxS 22 [(0, false)] (saS (symF bkN bkZ bkZ) (symF bkN bkZ bkZ) 0 0)).st saD).top.k
def saV (n m : Nat) (i : Int) : List Value := slots 26 [(0, sls 0 n), (1, sls 1 m), (5, .int .i64 i)]
theorem sa0 (G G' : Nat → Nat → Value) (n m : Nat) : headAt [0, 1, 5] [0, 1] saD (Ly.run ctxS 22 [(0, false)] (saS G G' n m)) = (true, [((n : Int) != (m : Int), false)], true, (Try.f13, saK, none, 2), saV n m 0, saO G G' n m) := by kernel_rfl
theorem saN (G G' : Nat → Nat → Value) (n m : Nat) : (Ly.run ctxS 200 [(0, true)] (saS G G' n m)).out? = some ([((n : Int) != (m : Int), true)], .bool false) := by kernel_rfl
theorem saT (G G' : Nat → Nat → Value) (n m : Nat) (i : Int) : (Ly.run ctxS 200 [(0, false)] (mkSt Try.f13 saK none 2 (saV n m i) (saO G G' n m))).out? = some ([(decide (i < (n : Int)), false)], .bool true) := by kernel_rfl
def opF (kd : Nat → Int) (nm : Nat → ByteArray) (ns hs : Nat → Int) : Nat → Nat → Value := fun e j => match j with
  | 0 => .int .i64 (kd e)
  | 1 => .string (nm e)
  | 2 => .int .u16 (ns e)
  | 3 => .int .i64 (hs e)
  | _ => undef
def liD : St := Ly.start Try.f11 [] H0
def liS (G : Nat → Nat → Value) (n : Nat) : St := Ly.start Try.f11 [sls 0 n] (mkH [some (.arg 4 G n)])
def liK : List KI := ((Ly.run ctxS 20 [(0, false)] (liS (opF bkZ bkN bkZ bkZ) 0)).st liD).top.k
def liV (n : Nat) (i : Int) : List Value := slots 21 [(0, sls 0 n), (3, .int .i64 i)]
theorem li0 (G : Nat → Nat → Value) (n : Nat) : headAt [0, 3] [0] liD (Ly.run ctxS 20 [(0, false)] (liS G n)) = (true, [(decide (60 < (n : Int)), false)], true, (Try.f11, liK, none, 1), liV n 0, [some (.arg 4 G n)]) := by kernel_rfl
theorem liN (G : Nat → Nat → Value) (n : Nat) : (Ly.run ctxS 200 [(0, true)] (liS G n)).out? = some ([(decide (60 < (n : Int)), true)], .bool false) := by kernel_rfl
theorem liT (G : Nat → Nat → Value) (n : Nat) (i : Int) : (Ly.run ctxS 200 [(0, false)] (mkSt Try.f11 liK none 1 (liV n i) [some (.arg 4 G n)])).out? = some ([(decide (i < (n : Int)), false)], .bool true) := by kernel_rfl
def saT1 (n m : Nat) (i : Int) (b b' : Bool) : List (Bool × Bool) := [(decide (i < (n : Int)), true), (decide (0 ≤ i) && decide (i < (n : Int)), true), (Nat.blt (0 + i.toNat) n, true), (decide (0 ≤ i) && decide (i < (m : Int)), true), (Nat.blt (0 + i.toNat) m, true), (b, b')]
def saB (nm nm2 : Nat → ByteArray) (ns hs ns2 hs2 : Nat → Int) (e : Nat) : Bool := strEq (nm e) (nm2 e) && (ns e == ns2 e && (hs e == hs2 e && true))
theorem sa1 (nm nm2 : Nat → ByteArray) (ns hs ns2 hs2 : Nat → Int) (n m : Nat) (i : Int) : headAt [0, 1, 5] [0, 1] saD (Ly.run ctxS 23 [(0, true), (0, true), (0, true), (0, true), (0, true), (0, false)] (mkSt Try.f13 saK none 2 (saV n m i) (saO (symF nm ns hs) (symF nm2 ns2 hs2) n m))) = (true, saT1 n m i (!saB nm nm2 ns hs ns2 hs2 (0 + i.toNat)) false, true, (Try.f13, saK, none, 2), saV n m (IntKind.i64.wrap (i + 1)), saO (symF nm ns hs) (symF nm2 ns2 hs2) n m) := by kernel_rfl
theorem sa2 (nm nm2 : Nat → ByteArray) (ns hs ns2 hs2 : Nat → Int) (n m : Nat) (i : Int) : (Ly.run ctxS 200 [(0, true), (0, true), (0, true), (0, true), (0, true), (0, true)] (mkSt Try.f13 saK none 2 (saV n m i) (saO (symF nm ns hs) (symF nm2 ns2 hs2) n m))).out? = some (saT1 n m i (!saB nm nm2 ns hs ns2 hs2 (0 + i.toNat)) true, .bool false) := by kernel_rfl
def liT1 (n : Nat) (i : Int) (b b' : Bool) : List (Bool × Bool) := [(decide (i < (n : Int)), true), (decide (0 ≤ i) && decide (i < (n : Int)), true), (Nat.blt (0 + i.toNat) n, true), (b, b')]
theorem li1 (kd : Nat → Int) (nm : Nat → ByteArray) (ns hs : Nat → Int) (n : Nat) (i : Int) : headAt [0, 3] [0] liD (Ly.run ctxS 32 [(0, true), (0, true), (0, true), (0, false)] (mkSt Try.f11 liK none 1 (liV n i) [some (.arg 4 (opF kd nm ns hs) n)])) = (true, liT1 n i (decide (100 < ((nm (0 + i.toNat)).size : Int))) false, true, (Try.f11, liK, none, 1), liV n (IntKind.i64.wrap (i + 1)), [some (.arg 4 (opF kd nm ns hs) n)]) := by kernel_rfl
theorem li2 (kd : Nat → Int) (nm : Nat → ByteArray) (ns hs : Nat → Int) (n : Nat) (i : Int) : (Ly.run ctxS 200 [(0, true), (0, true), (0, true), (0, true)] (mkSt Try.f11 liK none 1 (liV n i) [some (.arg 4 (opF kd nm ns hs) n)])).out? = some (liT1 n i (decide (100 < ((nm (0 + i.toNat)).size : Int))) true, .bool false) := by kernel_rfl
theorem liZ : (Ly.run ctxS 200 [] (Ly.start Try.f11 [.slice none 0 0] (mkH []))).out? = some ([], .bool true) := by kernel_rfl
theorem saZ1 (G : Nat → Nat → Value) (m : Nat) (b : Bool) : (Ly.run ctxS 200 [(0, b)] (Ly.start Try.f13 [.slice none 0 0, sls 0 m] (mkH [some (.arg 3 G m)]))).out? = some ([((0 : Int) != (m : Int), b)], .bool (!b)) := by cases b <;> kernel_rfl
theorem saZ2 (G : Nat → Nat → Value) (n : Nat) : (Ly.run ctxS 200 [(0, true)] (Ly.start Try.f13 [sls 0 n, .slice none 0 0] (mkH [some (.arg 3 G n)]))).out? = some ([((n : Int) != 0, true)], .bool false) := by kernel_rfl
theorem saZ4 (G : Nat → Nat → Value) : (Ly.run ctxS 200 [] (Ly.start Try.f13 [sls 0 0, .slice none 0 0] (mkH [some (.arg 3 G 0)]))).out? = some ([], .bool true) := by kernel_rfl
theorem saZ3 : (Ly.run ctxS 200 [] (Ly.start Try.f13 [.slice none 0 0, .slice none 0 0] (mkH []))).out? = some ([], .bool true) := by kernel_rfl
end Go.Proofs.Ytobdoejkioenhaa
namespace Go.Proofs.Ytobdoejkioenhaa
open Go Go.Ly Go.RowKit
section
variable {P : Program}
def rowsC2 (k : Nat) (mk : Nat → (Nat → Nat → Value) → Nat → (Nat → Nat → Value) → Bool × Value) (H : Heap) (args : List Value) : ER :=
  match args with
  | [x, y] =>
    match srcR H k x, srcR H k y with
    | some (g1, u), some (g2, v) => .tst (g1 && (u.csts && (g2 && (v.csts && (mk u.n (u.fun k) v.n (v.fun k)).1)))) (.val (mk u.n (u.fun k) v.n (v.fun k)).2) .no
    | _, _ => .no
  | _ => .no
theorem rowsC2_good {k : Nat} {f : FuncId} {mk : Nat → (Nat → Nat → Value) → Nat → (Nat → Nat → Value) → Bool × Value} (hp : ∀ n G m G', plain (mk n G m G').2 = true)
    (hSS : ∀ n G m G', (mk n G m G').1 = true → LCalls P f [sls 0 n, sls 1 m] (mkH [some (.arg k G n), some (.arg k G' m)]) (fun u _ => u = (mk n G m G').2))
    (hNS : ∀ G m G', (mk 0 G m G').1 = true → LCalls P f [.slice none 0 0, sls 0 m] (mkH [some (.arg k G' m)]) (fun u _ => u = (mk 0 G m G').2))
    (hSN : ∀ n G G', (mk n G 0 G').1 = true → LCalls P f [sls 0 n, .slice none 0 0] (mkH [some (.arg k G n)]) (fun u _ => u = (mk n G 0 G').2))
    (hNN : ∀ G G', (mk 0 G 0 G').1 = true → LCalls P f [.slice none 0 0, .slice none 0 0] (mkH []) (fun u _ => u = (mk 0 G 0 G').2))
    (args : List Value) (ρ : Ly.Ren) (args' : List Value) (w : World) (H : Heap) (ha : VRL ρ args args') (hr : Rep ρ H w) : ConGood P ρ f args' w (rowsC2 k mk H args) := by
  unfold rowsC2
  haveI := hr.fix.w
  split
  · rename_i x y
    simp only [VRL] at ha
    obtain ⟨x', _, hx, ⟨y', _, hy, rfl, rfl⟩, rfl⟩ := ha
    split
    · rename_i g1 u g2 v h1 h2
      refine ⟨fun hg => ?_, fun _ => trivial⟩
      simp only [Bool.and_eq_true] at hg
      obtain ⟨e1, e2, e3, e4, e5⟩ := hg
      refine ⟨_, plain_VR _ (hp _ _ _ _), ?_⟩
      rcases nil_or h1 with ⟨rfl, rfl⟩ | ⟨a, n, c, rfl⟩
      · simp only [VR] at hx; subst hx
        rcases nil_or h2 with ⟨rfl, rfl⟩ | ⟨b, m, d, rfl⟩
        · simp only [VR] at hy; subst hy
          exact calls_ro (ρ := rowsRen []) (hNN _ _ e5) (hp _ _ _ _) (by simp [VRL, VR]) (rows_rep (rs := []) rfl (by simp) (by simp) (by simp)) (fun _ => rfl)
        · obtain ⟨hvn, q, hrow⟩ := view_rows hr hy h2 e3 e4
          rw [hvn] at e5 ⊢
          refine calls_ro (ρ := rowsRenW [q] (fun _ => k)) (hNS _ m (v.fun k) e5) (hp _ _ _ _) (by simp only [VRL]; exact ⟨_, _, by simp [VR], ⟨y', _, VR_sls (slW_VR hrow (by simp)), rfl, rfl⟩, rfl⟩)
            (rowsW_rep (l := [q]) (rs := [(k, v.fun k, m)]) rfl (by simp) (by
              intro i z hz
              rcases i with _ | i
              · simp at hz; exact hrow.low z hz
              · simp at hz) (by
              intro i k2 g2 n2 h0
              rcases i with _ | i
              · simp at h0; obtain ⟨rfl, rfl, rfl⟩ := h0
                refine ⟨rfl, fun e j he hj => ⟨hrow.one e j he hj, ?_⟩⟩
                obtain ⟨z, h3, h4⟩ := hrow.cell e j he hj
                exact ⟨z, by simp [h3], h4⟩
              · simp at h0)) (fun _ => rfl)
      · obtain ⟨hun, p, hrow⟩ := view_rows hr hx h1 e1 e2
        rcases nil_or h2 with ⟨rfl, rfl⟩ | ⟨b, m, d, rfl⟩
        · simp only [VR] at hy; subst hy
          rw [hun] at e5 ⊢
          refine calls_ro (ρ := rowsRenW [p] (fun _ => k)) (hSN n (u.fun k) _ e5) (hp _ _ _ _) (by simp only [VRL]; exact ⟨x', _, VR_sls (slW_VR hrow (by simp)), ⟨_, _, by simp [VR], rfl, rfl⟩, rfl⟩)
            (rowsW_rep (l := [p]) (rs := [(k, u.fun k, n)]) rfl (by simp) (by
              intro i z hz
              rcases i with _ | i
              · simp at hz; exact hrow.low z hz
              · simp at hz) (by
              intro i k2 g2 n2 h0
              rcases i with _ | i
              · simp at h0; obtain ⟨rfl, rfl, rfl⟩ := h0
                refine ⟨rfl, fun e j he hj => ⟨hrow.one e j he hj, ?_⟩⟩
                obtain ⟨z, h3, h4⟩ := hrow.cell e j he hj
                exact ⟨z, by simp [h3], h4⟩
              · simp at h0)) (fun _ => rfl)
        · obtain ⟨hvn, q, hrow2⟩ := view_rows hr hy h2 e3 e4
          rw [hun, hvn] at e5 ⊢
          refine calls_ro (ρ := rowsRenW [p, q] (fun _ => k)) (hSS n (u.fun k) m (v.fun k) e5) (hp _ _ _ _) (by simp only [VRL]; exact ⟨x', _, VR_sls (slW_VR hrow (by simp)), ⟨y', _, VR_sls (slW_VR hrow2 (by simp)), rfl, rfl⟩, rfl⟩)
            (rowsW_rep (l := [p, q]) (rs := [(k, u.fun k, n), (k, v.fun k, m)]) rfl (by simp) (by
              intro i z hz
              rcases i with _ | _ | i
              · simp at hz; exact hrow.low z hz
              · simp at hz; exact hrow2.low z hz
              · simp at hz) (by
              intro i k2 g2 n2 h0
              rcases i with _ | _ | i
              · simp at h0; obtain ⟨rfl, rfl, rfl⟩ := h0
                refine ⟨rfl, fun e j he hj => ⟨hrow.one e j he hj, ?_⟩⟩
                obtain ⟨z, h3, h4⟩ := hrow.cell e j he hj
                exact ⟨z, by simp [h3], h4⟩
              · simp at h0; obtain ⟨rfl, rfl, rfl⟩ := h0
                refine ⟨rfl, fun e j he hj => ⟨hrow2.one e j he hj, ?_⟩⟩
                obtain ⟨z, h3, h4⟩ := hrow2.cell e j he hj
                exact ⟨z, by simp [h3], h4⟩
              · simp at h0)) (fun _ => rfl)
    · exact trivial
  · exact trivial
end
end Go.Proofs.Ytobdoejkioenhaa
namespace Go.Proofs.Ytobdoejkioenhaa
open Go Go.Ly Go.RowKit
theorem rep_args2 {ρ : Ly.Ren} {w : World} {k n m : Nat} {g g' h h' : Nat → Nat → Value} (he : ∀ e j, e < n → j < k → g e j = g' e j) (hh : ∀ e j, e < m → j < k → h e j = h' e j)
    (hr : Rep ρ (mkH [some (.arg k g n), some (.arg k h m)]) w) : Rep ρ (mkH [some (.arg k g' n), some (.arg k h' m)]) w := by
  have hget : ∀ (g h : Nat → Nat → Value) i, (mkH [some (.arg k g n), some (.arg k h m)]).get i = if i = 0 then some (.arg k g n) else if i = 1 then some (.arg k h m) else none := by
    intro g h i
    rw [mkH_get _ (by simp [big])]
    rcases i with _ | _ | i <;> simp
  refine ⟨hr.small, hr.dom, fun i j b o hi ho => ?_, fun i o ho => ?_, fun i o ho hown => ?_, fun i k2 g2 n2 ho => ?_, hr.fix⟩
  · rw [hget] at hi; split at hi
    · simp only [Option.some.injEq] at hi; subst hi; simp [LO.own] at ho
    · split at hi
      · simp only [Option.some.injEq] at hi; subst hi; simp [LO.own] at ho
      · cases hi
  · rw [hget] at ho; split at ho
    · rename_i e; subst e; show 0 < 2; omega
    · split at ho
      · rename_i e; subst e; show 1 < 2; omega
      · cases ho
  · rw [hget] at ho; split at ho
    · simp only [Option.some.injEq] at ho; subst ho; simp [LO.own] at hown
    · split at ho
      · simp only [Option.some.injEq] at ho; subst ho; simp [LO.own] at hown
      · cases ho
  · rw [hget] at ho; split at ho
    · rename_i e; subst e
      simp only [Option.some.injEq, LO.arg.injEq] at ho
      obtain ⟨rfl, rfl, rfl⟩ := ho
      obtain ⟨h1, h2⟩ := hr.arg 0 k g n (by rw [hget]; rfl)
      refine ⟨h1, h2.wd, fun e j h3 h4 => ?_⟩
      rw [← he e j h3 h4]; exact h2.cell e j h3 h4
    · split at ho
      · rename_i e; subst e
        simp only [Option.some.injEq, LO.arg.injEq] at ho
        obtain ⟨rfl, rfl, rfl⟩ := ho
        obtain ⟨h1, h2⟩ := hr.arg 1 k h m (by rw [hget]; rfl)
        refine ⟨h1, h2.wd, fun e j h3 h4 => ?_⟩
        rw [← hh e j h3 h4]; exact h2.cell e j h3 h4
      · cases ho
section
variable {nm nm2 : Nat → ByteArray} {ns hs ns2 hs2 : Nat → Int}
def saA (nm nm2 : Nat → ByteArray) (ns hs ns2 hs2 : Nat → Int) (n : Nat) : Bool := (List.range n).all fun e => saB nm nm2 ns hs ns2 hs2 e
theorem plain_sa {n m : Nat} : ∀ o ∈ saO (symF nm ns hs) (symF nm2 ns2 hs2) n m, ∀ x, o = some x → plainO x := by
  intro o ho x hx
  simp only [saO, List.mem_cons, List.not_mem_nil, or_false] at ho
  rcases ho with rfl | rfl <;> (simp only [Option.some.injEq] at hx; subst hx)
  · exact noBlk_symF nm ns hs
  · exact noBlk_symF nm2 ns2 hs2
theorem sa_loop {n : Nat} (hn : n ≤ 1000000) : ∀ (d i : Nat), i ≤ n → n - i = d → (∀ e, e < i → saB nm nm2 ns hs ns2 hs2 e = true) →
    MWp Try.prog (mkSt Try.f13 saK none 2 (saV n n (i : Int)) (saO (symF nm ns hs) (symF nm2 ns2 hs2) n n)) (fun v _ => v = .bool (saA nm nm2 ns hs ns2 hs2 n))
  | 0, i, h1, hd, he => by
    have hi : i = n := by omega
    refine MWp.out ctxS_ok 200 _ (saT _ _ n n i) (by simp [trusted]; omega) ?_
    intro _; rw [show saA nm nm2 ns hs ns2 hs2 n = true from List.all_eq_true.2 fun e h => he e (by have := List.mem_range.1 h; omega)]
  | d + 1, i, h1, hd, he => by
    have hi : i < n := by omega
    have hz : 0 + (i : Int).toNat = i := by omega
    have hi2 : decide ((i : Int) < (n : Int)) = true := decide_eq_true (by omega)
    have hi3 : (decide (0 ≤ (i : Int)) && decide ((i : Int) < (n : Int))) = true := by simp; omega
    have hi4 : Nat.blt (0 + (i : Int).toNat) n = true := by rw [hz, Nat.blt_eq]; exact hi
    have hw : IntKind.i64.wrap ((i : Int) + 1) = ((i + 1 : Nat) : Int) := by rw [IntKind.wrap_i64]; omega
    cases hb : saB nm nm2 ns hs ns2 hs2 i with
    | true =>
      refine MWp.head ctxS_ok _ _ _ _ (sa1 nm nm2 ns hs ns2 hs2 n n i) ⟨hi2, hi3, hi4, hi3, hi4, (by rw [hz, hb]; rfl), trivial⟩ plain_sa ?_
      rw [hw]
      refine sa_loop hn d (i + 1) (by omega) (by omega) (fun e h => ?_)
      by_cases hei : e = i
      · rw [hei]; exact hb
      · exact he e (by omega)
    | false =>
      refine MWp.out ctxS_ok 200 _ (sa2 nm nm2 ns hs ns2 hs2 n n i) ⟨hi2, hi3, hi4, hi3, hi4, (by rw [hz, hb]; rfl), trivial⟩ ?_
      intro _
      have : saA nm nm2 ns hs ns2 hs2 n = false := by
        cases e : saA nm nm2 ns hs ns2 hs2 n with
        | false => rfl
        | true => rw [List.all_eq_true.1 e i (List.mem_range.2 hi)] at hb; cases hb
      rw [this]
theorem gSa : ctxS.fn.get 13 = some Try.f13 := by kernel_rfl
theorem sa_calls {n m : Nat} (hn : n ≤ 1000000) : LCalls Try.prog 13 [sls 0 n, sls 1 m] (mkH (saO (symF nm ns hs) (symF nm2 ns2 hs2) n m)) (fun u _ => u = .bool (Nat.beq n m && saA nm nm2 ns hs ns2 hs2 n)) := by
  refine LCalls_of ctxS_ok gSa (by kernel_rfl) ?_
  by_cases h : n = m
  · subst h
    refine MWp.head ctxS_ok _ _ _ _ (sa0 _ _ n n) (by simp [trusted]) plain_sa ?_
    refine (sa_loop hn _ 0 (by omega) rfl (fun e h => by omega)).mono ?_
    rintro v K rfl
    rw [Nat.beq_refl, Bool.true_and]
  · refine MWp.out ctxS_ok 200 _ (saN _ _ n m) (by simp [trusted]; omega) ?_
    intro _
    rw [show Nat.beq n m = false from Bool.eq_false_iff.2 fun e => h (Nat.eq_of_beq_eq_true e)]; rfl
end
def sameV (n : Nat) (G : Nat → Nat → Value) (m : Nat) (G' : Nat → Nat → Value) : Bool := Nat.beq n m && saA (fun e => strAt (G e 0)) (fun e => strAt (G' e 0)) (fun e => numOf (G e 1)) (fun e => numOf (G e 2)) (fun e => numOf (G' e 1)) (fun e => numOf (G' e 2)) n
def sameMk (n : Nat) (G : Nat → Nat → Value) (m : Nat) (G' : Nat → Nat → Value) : Bool × Value := (propB (isSym G n ∧ isSym G' m), .bool (sameV n G m G'))
def sameE : Heap → List Value → ER := rowsC2 3 sameMk
theorem same_con (args : List Value) (ρ : Ly.Ren) (args' : List Value) (w : World) (H : Heap) (ha : VRL ρ args args') (hr : Rep ρ H w) : ConGood Try.prog ρ 13 args' w (sameE H args) := by
  refine rowsC2_good (fun n G m G' => rfl) (fun n G m G' h => ?_) (fun G m G' h => ?_) (fun n G G' h => ?_) (fun G G' h => ?_) args ρ args' w H ha hr
  · obtain ⟨h1, h2⟩ := propB_iff.1 h
    intro ρ args' w ha hr
    exact sa_calls h1.1 ρ args' w ha (rep_args2 (asSym_eq h1) (asSym_eq h2) hr)
  · by_cases hm : m = 0
    · subst hm
      exact LCalls_trust ctxS_ok 200 _ gSa (by kernel_rfl) (saZ1 G' 0 false) (by simp [trusted])
    · have : sameV 0 G m G' = false := by
        unfold sameV
        rw [show Nat.beq 0 m = false from Bool.eq_false_iff.2 fun e => hm (Nat.eq_of_beq_eq_true e).symm]; rfl
      show LCalls _ _ _ _ (fun u _ => u = .bool (sameV 0 G m G'))
      rw [this]
      exact LCalls_trust ctxS_ok 200 _ gSa (by kernel_rfl) (saZ1 G' m true) (by simp [trusted]; omega)
  · by_cases hm : n = 0
    · subst hm
      exact LCalls_trust (v := .bool true) ctxS_ok 200 [] gSa (by kernel_rfl) (t := []) (saZ4 G) trivial
    · have : sameV n G 0 G' = false := by
        unfold sameV
        rw [show Nat.beq n 0 = false from Bool.eq_false_iff.2 fun e => hm (Nat.eq_of_beq_eq_true e)]; rfl
      show LCalls _ _ _ _ (fun u _ => u = .bool (sameV n G 0 G'))
      rw [this]
      exact LCalls_trust ctxS_ok 200 _ gSa (by kernel_rfl) (saZ2 G n) (by simp [trusted]; omega)
  · exact LCalls_trust (v := .bool true) ctxS_ok 200 [] gSa (by kernel_rfl) (t := []) saZ3 trivial
def liB (n : Nat) (nm : Nat → ByteArray) : Bool := decide (n ≤ 60) && (List.range n).all fun e => decide ((nm e).size ≤ 100)
def isOp (G : Nat → Nat → Value) (n : Nat) : Prop := n ≤ 9223372036854775807 ∧ ∀ e, e < n → ∃ k s a b, G e 0 = .int .i64 k ∧ G e 1 = .string s ∧ G e 2 = .int .u16 a ∧ G e 3 = .int .i64 b
def asOp (G : Nat → Nat → Value) : Nat → Nat → Value := opF (fun e => numOf (G e 0)) (fun e => strAt (G e 1)) (fun e => numOf (G e 2)) (fun e => numOf (G e 3))
theorem asOp_eq {G : Nat → Nat → Value} {n : Nat} (h : isOp G n) : ∀ e j, e < n → j < 4 → G e j = asOp G e j := by
  intro e j he hj
  obtain ⟨k, s, a, b, h0, h1, h2, h3⟩ := h.2 e he
  have : j = 0 ∨ j = 1 ∨ j = 2 ∨ j = 3 := by omega
  rcases this with rfl | rfl | rfl | rfl <;> simp [asOp, opF, strAt, numOf, h0, h1, h2, h3]
section
variable {kd ns hs : Nat → Int} {nm : Nat → ByteArray}
theorem plain_li {n : Nat} : ∀ o ∈ [some (LO.arg 4 (opF kd nm ns hs) n)], ∀ x, o = some x → plainO x := by
  intro o ho x hx
  simp only [List.mem_cons, List.not_mem_nil, or_false] at ho
  subst ho
  simp only [Option.some.injEq] at hx; subst hx
  intro e j
  rcases j with _ | _ | _ | _ | j <;> simp [opF, noBlk, blks, undef, blksL]
theorem li_loop {n : Nat} (hn : n ≤ 60) : ∀ (d i : Nat), i ≤ n → n - i = d → (∀ e, e < i → (nm e).size ≤ 100) →
    MWp Try.prog (mkSt Try.f11 liK none 1 (liV n (i : Int)) [some (.arg 4 (opF kd nm ns hs) n)]) (fun v _ => v = .bool (liB n nm))
  | 0, i, h1, hd, he => by
    have hi : i = n := by omega
    refine MWp.out ctxS_ok 200 _ (liT _ n i) (by simp [trusted]; omega) ?_
    intro _
    unfold liB
    rw [decide_eq_true hn, show ((List.range n).all fun e => decide ((nm e).size ≤ 100)) = true from List.all_eq_true.2 fun e h => decide_eq_true (he e (by have := List.mem_range.1 h; omega))]; rfl
  | d + 1, i, h1, hd, he => by
    have hi : i < n := by omega
    have hz : 0 + (i : Int).toNat = i := by omega
    have hi2 : decide ((i : Int) < (n : Int)) = true := decide_eq_true (by omega)
    have hi3 : (decide (0 ≤ (i : Int)) && decide ((i : Int) < (n : Int))) = true := by simp; omega
    have hi4 : Nat.blt (0 + (i : Int).toNat) n = true := by rw [hz, Nat.blt_eq]; exact hi
    have hw : IntKind.i64.wrap ((i : Int) + 1) = ((i + 1 : Nat) : Int) := by rw [IntKind.wrap_i64]; omega
    by_cases hb : (nm i).size ≤ 100
    · refine MWp.head ctxS_ok _ _ _ _ (li1 kd nm ns hs n i) ⟨hi2, hi3, hi4, (by rw [hz]; exact decide_eq_false (by omega)), trivial⟩ plain_li ?_
      rw [hw]
      refine li_loop hn d (i + 1) (by omega) (by omega) (fun e h => ?_)
      by_cases hei : e = i
      · rw [hei]; exact hb
      · exact he e (by omega)
    · refine MWp.out ctxS_ok 200 _ (li2 kd nm ns hs n i) ⟨hi2, hi3, hi4, (by rw [hz]; exact decide_eq_true (by omega)), trivial⟩ ?_
      intro _
      have : liB n nm = false := by
        cases e : liB n nm with
        | false => rfl
        | true =>
          unfold liB at e
          rw [Bool.and_eq_true] at e
          exact absurd (of_decide_eq_true (List.all_eq_true.1 e.2 i (List.mem_range.2 hi))) hb
      rw [this]
theorem gLi : ctxS.fn.get 11 = some Try.f11 := by kernel_rfl
theorem li_calls {n : Nat} : LCalls Try.prog 11 [sls 0 n] (mkH [some (.arg 4 (opF kd nm ns hs) n)]) (fun u _ => u = .bool (liB n nm)) := by
  refine LCalls_of ctxS_ok gLi (by kernel_rfl) ?_
  by_cases h : n ≤ 60
  · refine MWp.head ctxS_ok _ _ _ _ (li0 _ n) (by simp [trusted]; omega) plain_li ?_
    exact li_loop h _ 0 (by omega) rfl (fun e h => by omega)
  · refine MWp.out ctxS_ok 200 _ (liN _ n) (by simp [trusted]; omega) ?_
    intro _
    unfold liB
    rw [decide_eq_false h]; rfl
end
def lightMk (n : Nat) (G : Nat → Nat → Value) (r : List Value) : Bool × Value := (match r with | [] => propB (isOp G n) | _ => false, .bool (liB n fun e => strAt (G e 1)))
def lightE : Heap → List Value → ER := rowsC 4 lightMk
theorem light_con (args : List Value) (ρ : Ly.Ren) (args' : List Value) (w : World) (H : Heap) (ha : VRL ρ args args') (hr : Rep ρ H w) : ConGood Try.prog ρ 11 args' w (lightE H args) := by
  refine rowsC_good (fun n G r => rfl) (fun n G r hp hg => ?_) (fun G r hp hg => ?_) args ρ args' w H ha hr
  · cases r with
    | cons _ _ => cases hg
    | nil => exact LCalls.argEq (asOp_eq (propB_iff.1 hg)) li_calls
  · cases r with
    | cons _ _ => cases hg
    | nil => exact LCalls_trust (v := .bool true) ctxS_ok 200 [] gLi (by kernel_rfl) (t := []) liZ trivial
end Go.Proofs.Ytobdoejkioenhaa
namespace Go.Proofs.Ytobdoejkioenhaa
open Go Go.Ly Go.RowKit
def putK (t : Tb) (s : ByteArray) (h : Int) : Int := bif !nameB s || !strEq (upS s) s then 2 else bif decide (h < 1) || decide (3 < h) then 1 else bif t.has s then (bif (h != 3) || (t.h s != 3) then 4 else 0) else bif decide (2048 ≤ (t.sz : Int)) then 11 else 0
def putU (t : Tb) (s : ByteArray) (n h : Int) : Tb := { has := updS t.has s, n := fun x => bif strEq x s then n else t.n x, h := fun x => bif strEq x s then h else t.h x, sz := bif t.has s then t.sz else t.sz + 1 }
def putT (t : Tb) (s : ByteArray) (n h : Int) : Tb := bif putK t s h == 0 then putU t s n h else t
def ptS (t : Tb) (s : ByteArray) (n h : Int) : St := Ly.start Try.f9 [ptr 1, .string s, .int .u16 n, .int .i64 h] (mkH (alO t))
section
variable (t : Tb) (s : ByteArray) (n h : Int)
theorem ptA (b : Bool) : endsAt [0, 1] (Ly.run ctxC 400 [(1, b), (1, true), (0, true)] (ptS t s n h)) = some ([(t.has s, b), (!nameB s, true), (!nameB s, true)], .int .i64 2, 3, alO t) := by cases b <;> kernel_rfl
theorem ptB (b : Bool) : endsAt [0, 1] (Ly.run ctxC 400 [(1, b), (1, false), (0, true), (0, true)] (ptS t s n h)) = some ([(t.has s, b), (!nameB s, false), (s.size.ble 4611686018427387904, true), (!strEq (upS s) s, true)], .int .i64 2, 3, alO t) := by cases b <;> kernel_rfl
theorem ptC (b : Bool) : endsAt [0, 1] (Ly.run ctxC 400 [(1, b), (1, false), (0, true), (0, false), (0, true), (0, true)] (ptS t s n h)) = some ([(t.has s, b), (!nameB s, false), (s.size.ble 4611686018427387904, true), (!strEq (upS s) s, false), (decide (h < 1), true), (decide (h < 1), true)], .int .i64 1, 3, alO t) := by cases b <;> kernel_rfl
theorem ptD (b : Bool) : endsAt [0, 1] (Ly.run ctxC 400 [(1, b), (1, false), (0, true), (0, false), (0, false), (0, true)] (ptS t s n h)) = some ([(t.has s, b), (!nameB s, false), (s.size.ble 4611686018427387904, true), (!strEq (upS s) s, false), (decide (h < 1), false), (decide (3 < h), true)], .int .i64 1, 3, alO t) := by cases b <;> kernel_rfl
theorem ptE : endsAt [0, 1] (Ly.run ctxC 400 [(1, true), (1, false), (0, true), (0, false), (0, false), (0, false), (3, false)] (ptS t s n h)) = some ([(t.has s, true), (!nameB s, false), (s.size.ble 4611686018427387904, true), (!strEq (upS s) s, false), (decide (h < 1), false), (decide (3 < h), false), ((h != 3) == false, false)], .int .i64 4, 3, alO t) := by kernel_rfl
theorem ptF : endsAt [0, 1] (Ly.run ctxC 400 [(1, true), (1, false), (0, true), (0, false), (0, false), (0, false), (3, true), (5, true)] (ptS t s n h)) = some ([(t.has s, true), (!nameB s, false), (s.size.ble 4611686018427387904, true), (!strEq (upS s) s, false), (decide (h < 1), false), (decide (3 < h), false), ((h != 3) == false, true), (t.h s != 3, true)], .int .i64 4, 3, alO t) := by kernel_rfl
theorem ptG : endsAt [0, 1] (Ly.run ctxC 400 [(1, true), (1, false), (0, true), (0, false), (0, false), (0, false), (3, true), (5, false), (8, true)] (ptS t s n h)) = some ([(t.has s, true), (!nameB s, false), (s.size.ble 4611686018427387904, true), (!strEq (upS s) s, false), (decide (h < 1), false), (decide (3 < h), false), ((h != 3) == false, true), (t.h s != 3, false), (t.has s, true)], .int .i64 0, 3, [some (.mp (updM (fun s => symV s (t.n s) (t.h s)) s (symV s n h)) t.has t.sz), some (.cells [.map (some 0)] 54)]) := by kernel_rfl
theorem ptH : endsAt [0, 1] (Ly.run ctxC 400 [(1, false), (1, false), (0, true), (0, false), (0, false), (0, false), (13, true)] (ptS t s n h)) = some ([(t.has s, false), (!nameB s, false), (s.size.ble 4611686018427387904, true), (!strEq (upS s) s, false), (decide (h < 1), false), (decide (3 < h), false), (decide (2048 ≤ (t.sz : Int)), true)], .int .i64 11, 3, alO t) := by kernel_rfl
theorem ptI : endsAt [0, 1] (Ly.run ctxC 400 [(1, false), (1, false), (0, true), (0, false), (0, false), (0, false), (13, false), (0, false)] (ptS t s n h)) = some ([(t.has s, false), (!nameB s, false), (s.size.ble 4611686018427387904, true), (!strEq (upS s) s, false), (decide (h < 1), false), (decide (3 < h), false), (decide (2048 ≤ (t.sz : Int)), false), (t.has s, false)], .int .i64 0, 3, [some (.mp (updM (fun s => symV s (t.n s) (t.h s)) s (symV s n h)) (updS t.has s) (t.sz + 1)), some (.cells [.map (some 0)] 54)]) := by kernel_rfl
theorem tail_eq {t : Tb} {s : ByteArray} {n h : Int} : LO.mp (updM (fun s => symV s (t.n s) (t.h s)) s (symV s n h)) (updS t.has s) (bif t.has s then t.sz else t.sz + 1) = mpOf (putU t s n h) := by
  unfold mpOf putU
  have e1 : updM (fun s => symV s (t.n s) (t.h s)) s (symV s n h) = fun x => symV x (bif strEq x s then n else t.n x) (bif strEq x s then h else t.h x) := by
    funext x
    by_cases hs : x = s
    · subst hs; rw [updM_self, strEq_self]; rfl
    · rw [updM_ne hs, strEq_ne hs]; rfl
  rw [e1]; rfl
theorem upS_has {t : Tb} {s : ByteArray} (hh : t.has s = true) : updS t.has s = t.has := by
  funext x
  by_cases hs : x = s
  · subst hs; rw [updS_self, hh]
  · rw [updS_ne hs]
end
theorem gPt : ctxC.fn.get 9 = some Try.f9 := by kernel_rfl
def putQ (t : Tb) (s : ByteArray) (n h : Int) : Value → Heap → Prop := fun u K => u = .int .i64 (putK t s h) ∧ K.next = 3 ∧ K.get 0 = some (mpOf (putT t s n h)) ∧ K.get 1 = some (.cells [.map (some 0)] 54) ∧ K.lock = 0
theorem pt_end {t : Tb} {s : ByteArray} {n h k : Int} {p : Path} {te : List (Bool × Bool)} {os : List (Option LO)} (he : endsAt [0, 1] (Ly.run ctxC 400 p (ptS t s n h)) = some (te, .int .i64 k, 3, os)) (ht : trusted te)
    (hk : putK t s h = k) (ho : os = [some (mpOf (putT t s n h)), some (.cells [.map (some 0)] 54)]) : MWp Try.prog (ptS t s n h) (putQ t s n h) := by
  refine (MWp.ends ctxC_ok 400 p he ht).mono ?_
  rintro u K ⟨rfl, h1, h2, h3⟩
  rw [ho] at h2
  simp only [List.map_cons, List.map_nil, List.cons.injEq, and_true] at h2
  exact ⟨by rw [hk], h1, h2.1, h2.2, h3⟩
theorem putT_no {t : Tb} {s : ByteArray} {n h k : Int} (hk : putK t s h = k) (h0 : (k == 0) = false) : putT t s n h = t := by unfold putT; rw [hk, h0]; rfl
theorem putT_yes {t : Tb} {s : ByteArray} {n h : Int} (hk : putK t s h = 0) : putT t s n h = putU t s n h := by unfold putT; rw [hk]; rfl
theorem pt_calls {t : Tb} {s : ByteArray} {n h : Int} (hs : s.size ≤ 1000000) : LCalls Try.prog 9 [ptr 1, .string s, .int .u16 n, .int .i64 h] (mkH (alO t)) (putQ t s n h) := by
  refine LCalls_of ctxC_ok gPt (by kernel_rfl) ?_
  show MWp Try.prog (ptS t s n h) _
  have l2 : Nat.ble s.size 4611686018427387904 = true := Nat.ble_eq_true_of_le (by omega)
  have no : ∀ {k : Int}, putK t s h = k → (k == 0) = false → alO t = [some (mpOf (putT t s n h)), some (.cells [.map (some 0)] 54)] := fun h1 h2 => by rw [putT_no h1 h2]; rfl
  cases hb : nameB s with
  | false =>
    have e : putK t s h = 2 := by unfold putK; rw [hb]; rfl
    exact pt_end (ptA t s n h (t.has s)) (by simp [trusted, hb]) e (no e rfl)
  | true =>
  cases hu : strEq (upS s) s with
  | false =>
    have e : putK t s h = 2 := by unfold putK; rw [hb, hu]; rfl
    exact pt_end (ptB t s n h (t.has s)) (by simp only [trusted, hb, hu, l2]; decide) e (no e rfl)
  | true =>
  by_cases g1 : h < 1
  · have e : putK t s h = 1 := by unfold putK; rw [hb, hu, decide_eq_true g1]; rfl
    exact pt_end (ptC t s n h (t.has s)) (by simp only [trusted, hb, hu, l2, decide_eq_true g1]; decide) e (no e rfl)
  by_cases g3 : 3 < h
  · have e : putK t s h = 1 := by unfold putK; rw [hb, hu, decide_eq_true g3, decide_eq_false g1]; rfl
    exact pt_end (ptD t s n h (t.has s)) (by simp only [trusted, hb, hu, l2, decide_eq_false g1, decide_eq_true g3]; decide) e (no e rfl)
  have hK : putK t s h = bif t.has s then (bif (h != 3) || (t.h s != 3) then 4 else 0) else bif decide (2048 ≤ (t.sz : Int)) then 11 else 0 := by
    unfold putK; rw [hb, hu, decide_eq_false g1, decide_eq_false g3]; rfl
  cases hh : t.has s with
  | true =>
    rw [hh, cond_true] at hK
    cases h3 : (h != 3) with
    | true =>
      have e : putK t s h = 4 := by rw [hK, h3]; rfl
      exact pt_end (ptE t s n h) (by simp only [trusted, hb, hu, l2, decide_eq_false g1, decide_eq_false g3, hh, h3]; decide) e (no e rfl)
    | false =>
    cases h4 : (t.h s != 3) with
    | true =>
      have e : putK t s h = 4 := by rw [hK, h3, h4]; rfl
      exact pt_end (ptF t s n h) (by simp only [trusted, hb, hu, l2, decide_eq_false g1, decide_eq_false g3, hh, h3, h4]; decide) e (no e rfl)
    | false =>
      have e : putK t s h = 0 := by rw [hK, h3, h4]; rfl
      refine pt_end (ptG t s n h) (by simp only [trusted, hb, hu, l2, decide_eq_false g1, decide_eq_false g3, hh, h3, h4]; decide) e ?_
      rw [putT_yes e, ← tail_eq, upS_has hh, hh]; rfl
  | false =>
    rw [hh, cond_false] at hK
    by_cases h5 : (2048 : Int) ≤ (t.sz : Int)
    · have e : putK t s h = 11 := by rw [hK, decide_eq_true h5]; rfl
      exact pt_end (ptH t s n h) (by simp only [trusted, hb, hu, l2, decide_eq_false g1, decide_eq_false g3, hh, decide_eq_true h5]; decide) e (no e rfl)
    · have e : putK t s h = 0 := by rw [hK, decide_eq_false h5]; rfl
      refine pt_end (ptI t s n h) (by simp only [trusted, hb, hu, l2, decide_eq_false g1, decide_eq_false g3, hh, decide_eq_false h5]; decide) e ?_
      rw [putT_yes e, ← tail_eq, hh]; rfl
end Go.Proofs.Ytobdoejkioenhaa
namespace Go.Proofs.Ytobdoejkioenhaa
open Go Go.Ly Go.RowKit
def plainR : List Value → Prop
  | [] => True
  | v :: r => (∀ f : Nat → Nat, renV f v = v) ∧ plainR r
theorem plainR_ren {l : List Value} (h : plainR l) (f : Nat → Nat) : renL f l = l := by
  induction l with
  | nil => rfl
  | cons v r ih => show renV f v :: renL f r = _; rw [h.1 f, ih h.2]
def setT (H : Heap) (r : Nat) (t : Tb) : Heap := { m := H.m.set r (some (mpOf t)), next := H.next + 16, lock := H.lock }
theorem tbl_frame {f : FuncId} {t t' : Tb} {rest : List Value} {v : Value} {H : Heap} {p r : Nat} (hl : H.lock = 0) (hn : H.next + 20 < 2147483000) (hrl : r < H.next) (hpr : p ≠ r) (hp : H.get p = some (.cells [.map (some r)] 54)) (hg : H.get r = some (mpOf t))
    (hrest : plainR rest) (hv : ∀ f : Nat → Nat, renV f v = v)
    (h : LCalls Try.prog f (ptr 1 :: rest) (mkH (alO t)) (fun u K => u = v ∧ 2 ≤ K.next ∧ K.next ≤ 18 ∧ K.get 0 = some (mpOf t') ∧ K.get 1 = some (.cells [.map (some 0)] 54) ∧ K.lock = 0)) :
    LCalls Try.prog f (.pointer (some ⟨p, 0, none⟩) :: rest) H (fun u K => u = v ∧ K = setT H r t') := by
  let σ : Nat → Nat := fun i => if i = 0 then r else p
  have hnext : (mkH (alO t)).next = 2 := rfl
  have e0 : ext σ 2 H.next 0 = r := by rw [ext_lt (by omega)]; rfl
  have e1 : ext σ 2 H.next 1 = p := by rw [ext_lt (by omega)]; rfl
  have hs0 : (mkH (alO t)).get 0 = some (mpOf t) := by kernel_rfl
  have hs1 : (mkH (alO t)).get 1 = some (.cells [.map (some 0)] 54) := by kernel_rfl
  have hsd : ∀ i o, (mkH (alO t)).get i = some o → i < 2 := fun i o h => by
    rcases Nat.lt_or_ge i 2 with h1 | h1
    · exact h1
    · rw [mkH_get _ (by show 2 < big; unfold big; omega), List.getElem?_eq_none (by exact h1)] at h; cases h
  have hfit : Fits σ (mkH (alO t)) H := by
    refine ⟨by rw [hnext]; unfold big; omega, hl, fun i hi => ?_, fun i o h => by rw [hnext]; exact hsd i o h, fun i o h => ?_, fun i j hi hj h => ?_⟩
    · rw [hnext] at hi
      have : i = 0 ∨ i = 1 := by omega
      rcases this with rfl | rfl
      · exact ⟨_, hs0⟩
      · exact ⟨_, hs1⟩
    · rw [hnext]
      have := hsd i o h
      have : i = 0 ∨ i = 1 := by omega
      rcases this with rfl | rfl
      · rw [hs0] at h; obtain rfl := Option.some.inj h
        exact hg
      · rw [hs1] at h; obtain rfl := Option.some.inj h
        show H.get p = some (renO _ (.cells [.map (some 0)] 54))
        rw [hp]
        simp only [renO, renL, renV, e0]
    · rw [hnext] at hi hj
      rcases (show i = 0 ∨ i = 1 by omega) with rfl | rfl <;> rcases (show j = 0 ∨ j = 1 by omega) with rfl | rfl
      · rfl
      · exact absurd h.symm hpr
      · exact absurd h hpr
      · rfl
  have hgetK : ∀ k, (setT H r t').get k = if k = r then some (mpOf t') else H.get k := fun k => Tr.get_set _ _ _ (by unfold big; omega) k
  have hargs : renL (ext σ (mkH (alO t)).next H.next) (ptr 1 :: rest) = .pointer (some ⟨p, 0, none⟩) :: rest := by
    rw [hnext]; show renV _ (ptr 1) :: renL _ rest = _
    rw [plainR_ren hrest]; simp only [ptr, renV, e1]
  have hf := LCalls.frame (H := H) (σ := σ) (Q := fun u K => u = v ∧ K = setT H r t') h hfit (by
    rintro vs Hs' ⟨rfl, k0, k1, k2, k3, k4⟩
    refine ⟨_, ⟨k4, by rw [hnext]; omega, by rw [hnext]; show H.next + (Hs'.next - 2) ≤ H.next + 16; omega, by show H.next + 16 < big; unfold big; omega, fun k o ho => ?_⟩, hv _, rfl⟩
    rw [hnext]
    rw [hgetK] at ho
    by_cases er : k = r
    · rw [if_pos er] at ho
      exact .inl ⟨0, _, by rw [e0, er], k2, (Option.some.inj ho).symm⟩
    · rw [if_neg er] at ho
      by_cases ep : k = p
      · subst ep
        rw [hp] at ho
        refine .inl ⟨1, _, e1, k3, ?_⟩
        rw [← Option.some.inj ho]
        simp only [renO, renL, renV, e0]
      · refine .inr ⟨fun i hi => ?_, ho⟩
        rcases (show i = 0 ∨ i = 1 by omega) with rfl | rfl
        · exact fun e => er e.symm
        · exact fun e => ep e.symm)
  rw [hargs] at hf
  exact hf
def putE (H : Heap) (args : List Value) : ER :=
  match args with
  | [.pointer none, .string _, .int .u16 _, .int .i64 _] => .val (.int .i64 14)
  | [.pointer (some ⟨p, 0, none⟩), .string s, .int .u16 n, .int .i64 h] =>
    match H.get p with
    | some (.cells [.map (some r)] 54) =>
      match H.get r with
      | some (.mp g has sz) => bif Nat.beq H.lock 0 && (Nat.blt (H.next + 20) 2147483000 && (Nat.blt r H.next && !(Nat.beq p r))) then
          .tst (propB (s.size ≤ 1000000 ∧ symOk g has sz)) (.mem (.int .i64 (putK (tbOf g has sz) s h)) (setT H r (putT (tbOf g has sz) s n h))) .no else .no
      | _ => .no
    | _ => .no
  | _ => .no
theorem ptNil (s : ByteArray) (n h : Int) : endsAt [] (Ly.run ctxC 400 [] (Ly.start Try.f9 [.pointer none, .string s, .int .u16 n, .int .i64 h] (mkH []))) = some ([], .int .i64 14, 0, []) := by kernel_rfl
theorem nil_val {f : FuncId} {args : List Value} {v : Value} {H : Heap} (hN : LCalls Try.prog f args (mkH []) (fun u _ => u = v)) (hv : plain v) (hv2 : ∀ ρ, VR ρ v v) (ha : ∀ (ρ : Ly.Ren) args', VRL ρ args args' → args' = args) (ha2 : ∀ ρ, VRL ρ args args) :
    HGood Try.prog f args H (.val v) := by
  intro ρ args' w h hr
  haveI := hr.fix.w
  obtain rfl := ha ρ args' h
  refine (calls_ro (ρ := rowsRen []) hN hv (ha2 _) (rows_rep (rs := []) rfl (by simp) (by simp) (by simp)) (fun _ => rfl)).mono ?_
  rintro e w' ⟨rfl, hbl⟩
  exact ⟨ρ, v, _, H, rfl, ⟨rfl, rfl⟩, Ren.le_refl _, Fresh.refl _ _, hv2 ρ, hr.below hbl, Below.toKeep hbl⟩
theorem put_good (H : Heap) (args : List Value) : HGood Try.prog 9 args H (putE H args) := by
  unfold putE
  split
  · rename_i s n h
    refine nil_val (LCalls_of ctxC_ok gPt (by kernel_rfl) ((MWp.ends ctxC_ok 400 _ (ptNil s n h) trivial).mono fun u K h => h.1)) (by simp [plain]) (fun ρ => by simp [VR]) (fun ρ args' h => by simp only [VRL, VR] at h; obtain ⟨_, _, rfl, ⟨_, _, rfl, ⟨_, _, rfl, ⟨_, _, rfl, rfl, rfl⟩, rfl⟩, rfl⟩, rfl⟩ := h; rfl) (fun ρ => by simp [VRL, VR])
  · rename_i p s n h
    split
    · rename_i r hp
      split
      · rename_i g has sz hg
        cases hc : (Nat.beq H.lock 0 && (Nat.blt (H.next + 20) 2147483000 && (Nat.blt r H.next && !(Nat.beq p r)))) with
        | false => exact trivial
        | true =>
        simp only [cond_true]
        simp only [Bool.and_eq_true, Bool.not_eq_true'] at hc
        refine ⟨fun hok => ?_, fun _ => trivial⟩
        obtain ⟨hs, hsy⟩ := propB_iff.1 hok
        have hpr : p ≠ r := fun e => by rw [e, Nat.beq_refl] at hc; cases hc.2.2.2
        refine tbl_frame (t := tbOf g has sz) (t' := putT (tbOf g has sz) s n h) (Nat.eq_of_beq_eq_true hc.1) (by simpa [Nat.blt_eq] using hc.2.1) (by simpa [Nat.blt_eq] using hc.2.2.1) hpr hp (by rw [hg]; exact congrArg some hsy) ⟨fun f => by simp [renV], fun f => by simp [renV], fun f => by simp [renV], trivial⟩ (fun f => by simp [renV]) ?_
        exact (pt_calls hs).mono fun u K h => ⟨h.1, by rw [h.2.1]; omega, by rw [h.2.1]; omega, h.2.2⟩
      · exact trivial
    · exact trivial
  · exact trivial
end Go.Proofs.Ytobdoejkioenhaa
namespace Go.Proofs.Ytobdoejkioenhaa
open Go Go.Ly Go.RowKit
def allZ (H : Heap) (args : List Value) : ER := match args with
  | [.pointer none] => .val (.slice none 0 0)
  | _ => allE H args
theorem alNil : endsAt [] (Ly.run ctxS 400 [] (Ly.start Try.f12 [.pointer none] (mkH []))) = some ([], .slice none 0 0, 0, []) := by kernel_rfl
theorem allZ_good (H : Heap) (args : List Value) : HGood Try.prog 12 args H (allZ H args) := by
  unfold allZ
  split
  · exact nil_val (LCalls_of ctxS_ok gAl (by kernel_rfl) ((MWp.ends ctxS_ok 400 _ alNil trivial).mono fun u K h => h.1)) (by simp [plain]) (fun ρ => by simp [VR]) (fun ρ args' h => by simp only [VRL, VR] at h; obtain ⟨_, _, rfl, rfl, rfl⟩ := h; rfl) (fun ρ => by simp [VRL, VR])
  · exact all_good H args
def aliveC (l : List Value) : Option (Bool × Value) := match l with
  | [] => some (true, .bool true)
  | _ => none
theorem gAv : ctxC.fn.get 7 = some Try.f7 := by kernel_rfl
theorem aliveR : (Ly.run ctxC 20000 [] (Ly.start Try.f7 [] H0)).out? = some ([], .bool true) := by kernel_rfl
theorem alive_ans : Answers Try.prog 7 aliveC := by
  intro args g v h hg
  unfold aliveC at h
  split at h
  · simp only [Option.some.injEq, Prod.mk.injEq] at h
    obtain ⟨rfl, rfl⟩ := h
    exact ⟨rfl, rfl, fun w => calls_trust ctxC_ok 20000 [] gAv (by kernel_rfl) rfl rfl aliveR trivial w⟩
  · cases h
def ctxY0 : Ctx := (((((ctxS.withH 12 allZ).withH 14 backE).withC 13 sameE).withC 11 lightE).withH 9 putE).with 7 aliveC
theorem ctxY0_ok : ctxY0.Ok Try.prog := (((((ctxS_ok.withH allZ_good).withH back_good).withC fun args ρ args' w H ha hr => same_con args ρ args' w H ha hr).withC fun args ρ args' w H ha hr => light_con args ρ args' w H ha hr).withH put_good).with alive_ans
def ctxY : Ctx := (ctxY0.withC 17 (conTree ctxC 400 17)).withC 19 (conTree ctxC 400 19)
theorem ctxY_ok : ctxY.Ok Try.prog := (ctxY0_ok.byCon ctxC_ok 400 17).byCon ctxC_ok 400 19
end Go.Proofs.Ytobdoejkioenhaa
namespace Go.Proofs.Ytobdoejkioenhaa
open Go Go.Ly Go.RowKit
def styO (kd : Nat → Int) (nm : Nat → ByteArray) (ns hs : Nat → Int) (n : Nat) (t : LO) : List (Option LO) := [some (.arg 4 (opF kd nm ns hs) n), some t, some (.cells [.map (some 1)] 54)]
def t0 : LO := .mp (fun _ => undef) (fun _ => false) 0
def lgT (kd : Nat → Int) (nm : Nat → ByteArray) (ns hs : Nat → Int) (n : Nat) : Bool := Nat.ble (0 + n) n && (true && (true && propB (isOp (fun e j => opF kd nm ns hs (0 + e) j) n)))
def pA (t : Tb) (s : ByteArray) : Bool := propB (s.size ≤ 1000000 ∧ symOk (fun s => symV s (t.n s) (t.h s)) t.has t.sz)
end Go.Proofs.Ytobdoejkioenhaa
namespace Go.Proofs.Ytobdoejkioenhaa
open Go Go.Ly Go.RowKit
section
variable (kd : Nat → Int) (nm : Nat → ByteArray) (ns hs : Nat → Int) (n : Nat) (i : Int) (dst : Option Tmp) (t : Tb) (wn : Nat → ByteArray) (wv wh : Nat → Int) (m : Nat) (k j : Int)
end
end Go.Proofs.Ytobdoejkioenhaa
namespace Go.Proofs.Ytobdoejkioenhaa
open Go Go.Ly Go.RowKit
end Go.Proofs.Ytobdoejkioenhaa
namespace Go.Proofs.Ytobdoejkioenhaa
open Go Go.Ly Go.RowKit
end Go.Proofs.Ytobdoejkioenhaa
namespace Go.Proofs.Ytobdoejkioenhaa
open Go Go.Ly Go.RowKit
theorem tr_snoc : ∀ {a b : List (Bool × Bool)}, trusted a → trusted b → trusted (a ++ b)
  | [], _, _, h => h
  | _ :: _, _, h, h' => ⟨h.1, tr_snoc h.2 h'⟩
section
variable {name : ByteArray} {n N how : Int}
end
end Go.Proofs.Ytobdoejkioenhaa
namespace Go.Proofs.Ytobdoejkioenhaa
open Go Go.Ly Go.RowKit
theorem noBlk_opF (kd : Nat → Int) (nm : Nat → ByteArray) (ns hs : Nat → Int) (e j : Nat) : noBlk (opF kd nm ns hs e j) := by
  rcases j with _ | _ | _ | _ | j <;> simp [opF, noBlk, blks, undef, blksL]
theorem pA_ok {t : Tb} {s : ByteArray} (h : s.size ≤ 1000000) : pA t s = true := propB_iff.2 ⟨h, rfl⟩
theorem isSym0 : isSym (lstG 3 0 []) 0 := ⟨by omega, fun e h => by omega⟩
theorem isSym_F {nm : Nat → ByteArray} {ns hs : Nat → Int} {m : Nat} (hm : m ≤ 1000000) : isSym (fun e j => symF nm ns hs (0 + e) j) m := ⟨hm, fun e _ => ⟨_, _, _, rfl, rfl, rfl⟩⟩
theorem saB_self (nm : Nat → ByteArray) (ns hs : Nat → Int) (e : Nat) : saB nm nm ns hs ns hs e = true := by
  unfold saB; rw [strEq_self]; simp
section
variable {kd : Nat → Int} {nm : Nat → ByteArray} {ns hs : Nat → Int} {n : Nat}
theorem plain_sty {t : Tb} : ∀ o ∈ styO kd nm ns hs n (mpOf t), ∀ x, o = some x → plainO x := by
  intro o ho x hx
  simp only [styO, List.mem_cons, List.not_mem_nil, or_false] at ho
  rcases ho with rfl | rfl | rfl <;> (simp only [Option.some.injEq] at hx; subst hx)
  · exact noBlk_opF kd nm ns hs
  · exact trivial
  · exact trivial
theorem put_sz {t : Tb} {s : ByteArray} {v h : Int} : (putT t s v h).sz ≤ t.sz + 1 := by
  unfold putT putU
  cases (putK t s h == 0) <;> cases t.has s <;> simp
theorem put_has {t : Tb} {s : ByteArray} {v h : Int} {x : ByteArray} (hx : (putT t s v h).has x = true) : t.has x = true ∨ x = s := by
  by_cases hs : x = s
  · exact .inr hs
  · left
    unfold putT putU at hx
    cases hk : (putK t s h == 0) with
    | false => rw [hk] at hx; exact hx
    | true => rw [hk, cond_true] at hx; rw [← updS_ne (has := t.has) hs]; exact hx
structure Few (t : Tb) (i : Nat) : Prop where
  sz : t.sz ≤ i
  nm : ∀ s, t.has s = true → s.size ≤ 100
theorem Few.ok {t : Tb} {i : Nat} (h : Few t i) (hi : i ≤ 60) : keyOk t.has t.sz := ⟨by have := h.sz; omega, fun s hs => by have := h.nm s hs; omega⟩
theorem Few.put {t : Tb} {i : Nat} (h : Few t i) {s : ByteArray} {v w : Int} (hs : s.size ≤ 100) : Few (putT t s v w) (i + 1) :=
  ⟨by have := h.sz; have := put_sz (t := t) (s := s) (v := v) (h := w); omega, fun x hx => by rcases put_has hx with h1 | rfl; exact h.nm x h1; exact hs⟩
theorem Few.up {t : Tb} {i : Nat} (h : Few t i) : Few t (i + 1) := ⟨by have := h.sz; omega, h.nm⟩
variable {i : Int} {dst : Option Tmp} {t : Tb} {wn : Nat → ByteArray} {wv wh : Nat → Int} {m : Nat} {k : Int} {Q : Value → Heap → Prop}
end
end Go.Proofs.Ytobdoejkioenhaa
namespace Go.Proofs.Ytobdoejkioenhaa
open Go Go.Ly Go.RowKit
structure OA where
  kd : Nat → Int
  nm : Nat → ByteArray
  ns : Nat → Int
  hs : Nat → Int
  n : Nat
  sa : ByteArray
  va : Int
  ha : Int
  sb : ByteArray
  vb : Int
  hb : Int
def OA.op (q : OA) : Nat → Nat → Value := opF q.kd q.nm q.ns q.hs
end Go.Proofs.Ytobdoejkioenhaa
namespace Go.Proofs.Ytobdoejkioenhaa
open Go Go.Ly Go.RowKit Go.Sort
theorem sortK_pair (has : ByteArray → Bool) : (sortK has).Pairwise fun a b => leB a b = true := by
  have tr : ∀ a b c : List UInt8, leB a b = true → leB b c = true → leB a c = true := fun a b c h1 h2 => by simp only [leB, decide_eq_true_eq] at *; exact List.le_trans h1 h2
  have to : ∀ a b : List UInt8, (leB a b || leB b a) = true := fun a b => by simp only [leB, Bool.or_eq_true, decide_eq_true_eq]; exact List.le_total a b
  unfold sortK
  split
  · exact List.pairwise_mergeSort tr to _
  · exact List.Pairwise.nil
theorem key_lt {has : ByteArray → Bool} {n : Nat} (hk : KeyG has n) {i j : Nat} (hij : i < j) (hj : j < n) : Op.bytesLess (keyAt has i).toList (keyAt has j).toList = true := by
  have hi : i < (sortK has).length := by rw [hk.len]; omega
  have hj' : j < (sortK has).length := by rw [hk.len]; omega
  have h1 := List.pairwise_iff_getElem.1 (sortK_pair has) i j hi hj' hij
  have h2 := List.pairwise_iff_getElem.1 hk.nodup i j hi hj' hij
  have e : ∀ {k} (h : k < (sortK has).length), (keyAt has k).toList = (sortK has)[k] := fun {k} h => by
    rw [ByteArray.toList_eq]
    unfold keyAt
    rw [List.getD_eq_getElem?_getD, List.getElem?_eq_getElem h, Option.getD_some]
  rw [e hi, e hj', bytesLess_eq, decide_eq_true_eq]
  simp only [leB, decide_eq_true_eq] at h1
  exact Decidable.byContradiction fun hn => h2 (List.le_antisymm h1 (List.not_lt.1 hn))
end Go.Proofs.Ytobdoejkioenhaa
namespace Go.Proofs.Ytobdoejkioenhaa
open Go Go.Ly Go.RowKit
def tE : Tb := ⟨fun _ => false, fun _ => 0, fun _ => 0, 0⟩
theorem emp_or {ρ : Ly.Ren} {i : Nat} {o : Obj} (h : OR ρ i t0 o) : OR ρ i (mpOf tE) o := by
  obtain ⟨h0, hk, es, cl, rfl, hm⟩ := h
  have he : es.toList = [] := List.length_eq_zero_iff.1 hm.len
  refine ⟨h0, hk, es, cl, rfl, ?_⟩
  rw [he]
  exact ⟨rfl, fun e he => by simp at he, fun s hs => (by cases hs), by simp, fun e he => by simp at he⟩
theorem few_E (i : Nat) : Few tE i := ⟨Nat.zero_le _, fun s h => by cases h⟩
section
variable {kd : Nat → Int} {nm : Nat → ByteArray} {ns hs : Nat → Int} {n : Nat}
theorem plain_sty0 : ∀ o ∈ styO kd nm ns hs n t0, ∀ x, o = some x → plainO x := by
  intro o ho x hx
  simp only [styO, List.mem_cons, List.not_mem_nil, or_false] at ho
  rcases ho with rfl | rfl | rfl <;> (simp only [Option.some.injEq] at hx; subst hx)
  · exact noBlk_opF kd nm ns hs
  · exact trivial
  · exact trivial
theorem lgT_ok (hn : n ≤ 9223372036854775807) : lgT kd nm ns hs n = true := by
  unfold lgT
  rw [propB_iff.2 (show isOp (fun e j => opF kd nm ns hs (0 + e) j) n from ⟨hn, fun e _ => ⟨_, _, _, _, rfl, rfl, rfl, rfl⟩⟩), Nat.zero_add, Nat.ble_eq_true_of_le (Nat.le_refl _)]; rfl
theorem liB_iff {n : Nat} {nm : Nat → ByteArray} : liB n nm = true ↔ n ≤ 60 ∧ ∀ e, e < n → (nm e).size ≤ 100 := by
  unfold liB
  simp only [Bool.and_eq_true, decide_eq_true_eq, List.all_eq_true, List.mem_range]
end
theorem isOp0 : isOp (lstG 4 0 []) 0 := ⟨by omega, fun e h => by omega⟩
theorem ck_op {W : World} {v : Value} (h : CkOk W (.slice [.int .i64, .str, .int .u16, .int .i64]) v) : v = .slice none 0 0 ∨ ∃ (k : Nat) (kd : Nat → Int) (nm : Nat → ByteArray) (ns hs : Nat → Int) (p : Option Plc), RealRows W 4 (opF kd nm ns hs) k v p ∧ k ≤ 9223372036854775807 := by
  rcases ck_rows (by rfl) (by decide) h with rfl | ⟨k, F, p, hr, hc, hm⟩
  · exact .inl rfl
  · have hF : ∀ e, e < k → ∃ x s y z, F e = [.int .i64 x, .string s, .int .u16 y, .int .i64 z] := by
      intro e he
      have h1 := hc e he
      simp only [CksOk, CkOk] at h1
      obtain ⟨_, _, e1, ⟨x, rfl, hx⟩, _, _, rfl, ⟨s, rfl, hs⟩, _, _, rfl, ⟨y, rfl, hy⟩, _, _, rfl, ⟨z, rfl, hz⟩, rfl⟩ := h1
      exact ⟨x, s, y, z, e1⟩
    refine .inr ⟨k, fun e => numOf (((F e)[0]?).getD undef), fun e => strAt (((F e)[1]?).getD undef), fun e => numOf (((F e)[2]?).getD undef), fun e => numOf (((F e)[3]?).getD undef), p, hr.congr (fun e j he hj => ?_), by unfold maxLen at hm; omega⟩
    obtain ⟨x, s, y, z, e1⟩ := hF e he
    have hj : j < 4 := hj
    simp only [opF, e1]
    have : j = 0 ∨ j = 1 ∨ j = 2 ∨ j = 3 := by omega
    rcases this with rfl | rfl | rfl | rfl <;> rfl
theorem ops_rep {W : World} {k : Nat} {kd : Nat → Int} {nm : Nat → ByteArray} {ns hs : Nat → Int} {v : Value} {p : Option Plc} [FixW W] (hr : RealRows W 4 (opF kd nm ns hs) k v p) : Rep (rowsRenW [p] (fun _ => 4)) (mkH [some (.arg 4 (opF kd nm ns hs) k)]) W :=
  rowsW_rep (l := [p]) (rs := [(4, opF kd nm ns hs, k)]) rfl (by simp) (by
    intro j q hq
    rcases j with _ | j
    · simp at hq; exact hr.low q hq
    · simp at hq) (by
    intro j k2 g2 n2 h0
    rcases j with _ | j
    · simp at h0; obtain ⟨rfl, rfl, rfl⟩ := h0
      refine ⟨rfl, fun e j he hj => ⟨hr.one e j he hj, ?_⟩⟩
      obtain ⟨q, h3, h4⟩ := hr.cell e j he hj
      exact ⟨q, by simp [h3], h4⟩
    · simp at h0)
end Go.Proofs.Ytobdoejkioenhaa
namespace Go.Proofs.Ytobdoejkioenhaa
open Go Go.Ly Go.RowKit
section
variable (b : Bool) (q : OA) (i : Int) (dst : Option Tmp) (t : Tb) (w x : Int)
end
theorem Few.ok2 {t : Tb} {i : Nat} (h : Few t i) (hi : i ≤ 1000) : keyOk t.has t.sz := ⟨by have := h.sz; omega, fun s hs => by have := h.nm s hs; omega⟩
section
variable {b : Bool} {q : OA}
end
end Go.Proofs.Ytobdoejkioenhaa
namespace Go.Proofs.Ytobdoejkioenhaa
open Go Go.Ly Go.RowKit Go.Sort
def rowT (t : Tb) : Nat → Nat → Value := symF (fun e => keyAt t.has e) (fun e => t.n (keyAt t.has e)) (fun e => t.h (keyAt t.has e))
def Nrm (t : Tb) : Prop := ∀ s, t.has s = false → t.n s = 0 ∧ t.h s = 0
def idxOf (nm : Nat → ByteArray) (n : Nat) (s : ByteArray) : Option Nat := (List.range n).find? fun e => strEq (nm e) s
def findV (nm : Nat → ByteArray) (n : Nat) (s : ByteArray) : Int := match idxOf nm n s with
  | some e => e
  | none => -1
theorem strEq_true {a b : ByteArray} (h : strEq a b = true) : a = b := Decidable.byContradiction fun hn => by rw [strEq_ne hn] at h; cases h
theorem idx_some {nm : Nat → ByteArray} {n : Nat} {s : ByteArray} {e : Nat} (h : idxOf nm n s = some e) : e < n ∧ nm e = s := by
  unfold idxOf at h
  exact ⟨List.mem_range.1 (List.mem_of_find?_eq_some h), strEq_true (List.find?_some (p := fun e => strEq (nm e) s) h)⟩
theorem idx_none {nm : Nat → ByteArray} {n : Nat} {s : ByteArray} (h : idxOf nm n s = none) : ∀ e, e < n → nm e ≠ s := by
  intro e he hs
  have := List.find?_eq_none.1 h e (List.mem_range.2 he)
  rw [hs, strEq_self] at this
  exact this rfl
theorem idx_is {nm : Nat → ByteArray} {n : Nat} {s : ByteArray} {e : Nat} (he : e < n) (hs : nm e = s) (hu : ∀ e', e' < n → nm e' = s → e' = e) : idxOf nm n s = some e := by
  cases h : idxOf nm n s with
  | none => exact absurd hs (idx_none h e he)
  | some e' => obtain ⟨h1, h2⟩ := idx_some h; rw [hu e' h1 h2]
theorem idx_first {nm : Nat → ByteArray} {n : Nat} {s : ByteArray} {e : Nat} (he : e < n) (hs : nm e = s) (hb : ∀ e', e' < e → nm e' ≠ s) : idxOf nm n s = some e := by
  unfold idxOf
  rw [List.find?_range_eq_some]
  refine ⟨by rw [hs]; exact strEq_self s, List.mem_range.2 he, fun a ha => ?_⟩
  rw [strEq_ne (hb a ha)]; rfl
theorem KeyG.ex {has : ByteArray → Bool} {n : Nat} (h : KeyG has n) {s : ByteArray} (hs : has s = true) : ∃ e, e < n ∧ keyAt has e = s := by
  have hm : s.data.toList ∈ sortK has := (h.mem _).2 hs
  obtain ⟨e, he, h2⟩ := List.mem_iff_getElem.1 hm
  refine ⟨e, by rw [← h.len]; exact he, ?_⟩
  unfold keyAt
  rw [List.getD_eq_getElem?_getD, List.getElem?_eq_getElem he, Option.getD_some, h2]
theorem KeyG.inj {has : ByteArray → Bool} {n : Nat} (h : KeyG has n) {i j : Nat} (hi : i < n) (hj : j < n) (he : keyAt has i = keyAt has j) : i = j := by
  have hi' : i < (sortK has).length := by rw [h.len]; exact hi
  have hj' : j < (sortK has).length := by rw [h.len]; exact hj
  unfold keyAt at he
  rw [List.getD_eq_getElem?_getD, List.getD_eq_getElem?_getD, List.getElem?_eq_getElem hi', List.getElem?_eq_getElem hj', Option.getD_some, Option.getD_some] at he
  exact (List.getElem_inj h.nodup).1 (by simpa using he)
theorem KeyG.idx {has : ByteArray → Bool} {n : Nat} (h : KeyG has n) (s : ByteArray) : (has s = true → ∃ e, e < n ∧ keyAt has e = s ∧ idxOf (keyAt has) n s = some e) ∧ (has s = false → idxOf (keyAt has) n s = none) := by
  refine ⟨fun hs => ?_, fun hs => ?_⟩
  · obtain ⟨e, he, h2⟩ := h.ex hs
    exact ⟨e, he, h2, idx_is he h2 fun e' h3 h4 => h.inj h3 he (h4.trans h2.symm)⟩
  · cases h1 : idxOf (keyAt has) n s with
    | none => rfl
    | some e =>
      obtain ⟨h2, h3⟩ := idx_some h1
      have := h.at h2
      rw [h3, hs] at this; cases this
def tbR (G : Nat → Nat → Value) (n : Nat) : Tb :=
  { has := fun s => (idxOf (fun e => strAt (G e 0)) n s).isSome,
    n := fun s => match idxOf (fun e => strAt (G e 0)) n s with | some e => numOf (G e 1) | none => 0,
    h := fun s => match idxOf (fun e => strAt (G e 0)) n s with | some e => numOf (G e 2) | none => 0, sz := n }
theorem tbR_row {t : Tb} (hk : KeyG t.has t.sz) (hn : Nrm t) : tbR (rowT t) t.sz = t := by
  have e0 : ∀ s, idxOf (fun e => strAt (rowT t e 0)) t.sz s = idxOf (keyAt t.has) t.sz s := fun s => rfl
  unfold tbR
  cases t with
  | mk has n h sz =>
  simp only [Tb.mk.injEq, and_true]
  refine ⟨?_, ?_, ?_⟩ <;> funext s <;> (rw [e0 s]; cases hs : has s)
  · rw [(hk.idx s).2 hs]; rfl
  · obtain ⟨e, _, _, h3⟩ := (hk.idx s).1 hs; rw [h3]; rfl
  · rw [(hk.idx s).2 hs]; exact (hn s hs).1.symm
  · obtain ⟨e, _, h2, h3⟩ := (hk.idx s).1 hs; rw [h3]; show n (keyAt has e) = n s; rw [h2]
  · rw [(hk.idx s).2 hs]; exact (hn s hs).2.symm
  · obtain ⟨e, _, h2, h3⟩ := (hk.idx s).1 hs; rw [h3]; show h (keyAt has e) = h s; rw [h2]
def lessB (a b : ByteArray) : Bool := decide (a.data.toList < b.data.toList)
theorem keyAt_lt {has : ByteArray → Bool} {n : Nat} (hk : KeyG has n) {i j : Nat} (hij : i < j) (hj : j < n) : (keyAt has i).data.toList < (keyAt has j).data.toList := by
  have := key_lt hk hij hj
  rw [bytesLess_eq, decide_eq_true_eq, ByteArray.toList_eq, ByteArray.toList_eq] at this
  exact this
theorem getD_key {has : ByteArray → Bool} {n : Nat} (hk : KeyG has n) {e : Nat} (he : e < n) : (sortK has)[e]? = some (keyAt has e).data.toList := by
  have : e < (sortK has).length := by rw [hk.len]; exact he
  unfold keyAt
  rw [List.getD_eq_getElem?_getD, List.getElem?_eq_getElem this]; rfl
theorem sorted_ext {has : ByteArray → Bool} {l : List (List UInt8)} (h1 : l.Pairwise fun a b => a < b) (h2 : ∀ x, x ∈ l ↔ has ⟨⟨x⟩⟩ = true) : sortK has = l := by
  have hnd : l.Nodup := h1.imp fun {a b} h e => by subst e; exact List.lt_irrefl _ h
  rw [sortK_eq ⟨hnd, h2⟩]
  exact List.mergeSort_of_pairwise (h1.imp fun {a b} h => by simp only [leB, decide_eq_true_eq]; exact List.le_of_lt h)
theorem sortK_lt {has : ByteArray → Bool} {n : Nat} (hk : KeyG has n) : (sortK has).Pairwise fun a b => a < b := by
  have h1 := sortK_pair has
  have h2 := hk.nodup
  refine (h1.and h2).imp fun {a b} h => ?_
  have h3 : a ≤ b := by simpa [leB] using h.1
  exact Decidable.byContradiction fun hn => h.2 (List.le_antisymm h3 (List.not_lt.1 hn))
theorem ins_sort {has : ByteArray → Bool} {n : Nat} (hk : KeyG has n) {s : ByteArray} (hs : has s = false) {k : Nat} (hkn : k ≤ n) (hlo : ∀ e, e < k → lessB (keyAt has e) s = true) (hhi : k < n → lessB (keyAt has k) s = false) :
    sortK (updS has s) = (sortK has).take k ++ s.data.toList :: (sortK has).drop k := by
  have hp := sortK_lt hk
  have hne : ∀ x ∈ sortK has, x ≠ s.data.toList := fun x hx e => by
    have := (hk.mem x).1 hx
    rw [e] at this
    rw [show (⟨⟨s.data.toList⟩⟩ : ByteArray) = s from rfl, hs] at this; cases this
  have hA : ∀ x ∈ (sortK has).take k, x < s.data.toList := by
    intro x hx
    obtain ⟨i, hi, rfl⟩ := List.mem_iff_getElem.1 hx
    have hi1 : i < k := by have := List.length_take (i := k) (l := sortK has); omega
    have := hlo i hi1
    rw [lessB, decide_eq_true_eq] at this
    have hg := getD_key hk (e := i) (by omega)
    rw [List.getElem_take]
    rw [List.getElem?_eq_getElem (by rw [hk.len]; omega)] at hg
    rw [Option.some.inj hg]; exact this
  have hB : ∀ x ∈ (sortK has).drop k, s.data.toList < x := by
    intro x hx
    obtain ⟨i, hi, rfl⟩ := List.mem_iff_getElem.1 hx
    have hl : k + i < n := by rw [List.length_drop, hk.len] at hi; omega
    have h0 := hhi (by omega)
    rw [lessB, decide_eq_false_iff_not] at h0
    have hg := getD_key hk (e := k + i) hl
    rw [List.getElem_drop]
    rw [List.getElem?_eq_getElem (by rw [hk.len]; omega)] at hg
    have hx2 : (sortK has)[k + i]'(by rw [hk.len]; omega) ≠ s.data.toList := hne _ (List.getElem_mem _)
    rw [Option.some.inj hg] at hx2 ⊢
    have h1 : s.data.toList ≤ (keyAt has k).data.toList := List.not_lt.1 h0
    have h2 : (keyAt has k).data.toList ≤ (keyAt has (k + i)).data.toList := by
      rcases Nat.eq_zero_or_pos i with rfl | hi0
      · exact List.le_refl _
      · exact List.le_of_lt (keyAt_lt hk (by omega) hl)
    exact Decidable.byContradiction fun hn => hx2 (List.le_antisymm (List.not_lt.1 hn) (List.le_trans h1 h2))
  refine sorted_ext ?_ fun x => ?_
  · rw [List.pairwise_append]
    refine ⟨hp.sublist (List.take_sublist _ _), List.pairwise_cons.2 ⟨fun x hx => hB x hx, hp.sublist (List.drop_sublist _ _)⟩, fun a ha b hb => ?_⟩
    rcases List.mem_cons.1 hb with rfl | hb
    · exact hA a ha
    · exact List.lt_trans (hA a ha) (hB b hb)
  · have hm : x ∈ sortK has ↔ x ∈ (sortK has).take k ∨ x ∈ (sortK has).drop k := by rw [← List.mem_append, List.take_append_drop]
    rw [List.mem_append, List.mem_cons]
    by_cases hx : x = s.data.toList
    · subst hx
      refine ⟨fun _ => ?_, fun _ => .inr (.inl rfl)⟩
      show updS has s s = true
      exact updS_self
    · have hx2 : (⟨⟨x⟩⟩ : ByteArray) ≠ s := fun e => hx (by rw [← e])
      rw [updS_ne hx2, ← hk.mem x, hm]
      exact ⟨fun h => by rcases h with h | h | h; exact .inl h; exact absurd h hx; exact .inr h, fun h => by rcases h with h | h; exact .inl h; exact .inr (.inr h)⟩
theorem ins_keys {has : ByteArray → Bool} {n : Nat} (hk : KeyG has n) {s : ByteArray} (hs : has s = false) {k : Nat} (hkn : k ≤ n) (hlo : ∀ e, e < k → lessB (keyAt has e) s = true) (hhi : k < n → lessB (keyAt has k) s = false) (e : Nat) :
    keyAt (updS has s) e = if e < k then keyAt has e else if e = k then s else keyAt has (e - 1) := by
  have hl := hk.len
  have h := ins_sort hk hs hkn hlo hhi
  unfold keyAt
  rw [h]
  have hlen : ((sortK has).take k).length = k := by rw [List.length_take]; omega
  by_cases h1 : e < k
  · rw [if_pos h1, List.getD_eq_getElem?_getD, List.getElem?_append_left (by omega), List.getElem?_take_of_lt h1, ← List.getD_eq_getElem?_getD]
  · rw [if_neg h1, List.getD_eq_getElem?_getD, List.getElem?_append_right (by omega), hlen]
    by_cases h2 : e = k
    · subst h2; rw [if_pos rfl, Nat.sub_self]; rfl
    · rw [if_neg h2]
      obtain ⟨j, rfl⟩ : ∃ j, e = k + (j + 1) := ⟨e - k - 1, by omega⟩
      rw [show k + (j + 1) - k = j + 1 by omega, List.getElem?_cons_succ, List.getElem?_drop, ← List.getD_eq_getElem?_getD, show k + (j + 1) - 1 = k + j by omega]
theorem keyG_ins {has : ByteArray → Bool} {n : Nat} (hk : KeyG has n) {s : ByteArray} (hs : has s = false) : KeyG (updS has s) (n + 1) := by
  have hL : KeyL (updS has s) (s.data.toList :: sortK has) := by
    refine ⟨List.nodup_cons.2 ⟨fun hx => ?_, hk.nodup⟩, fun x => ?_⟩
    · have := (hk.mem _).1 hx
      rw [show (⟨⟨s.data.toList⟩⟩ : ByteArray) = s from rfl, hs] at this; cases this
    · rw [List.mem_cons]
      by_cases hx : x = s.data.toList
      · subst hx; exact ⟨fun _ => updS_self, fun _ => .inl rfl⟩
      · have hx2 : (⟨⟨x⟩⟩ : ByteArray) ≠ s := fun e => hx (by rw [← e])
        rw [updS_ne hx2, ← hk.mem x]
        exact ⟨fun h => by rcases h with h | h; exact absurd h hx; exact h, .inr⟩
  have := keyG_of hL
  rw [List.length_cons, hk.len] at this
  exact this
def keepE (t : Tb) (w : Int) (i : Nat) : List Nat := (List.range i).filter fun e => t.h (keyAt t.has e) != w
def fgT (t : Tb) (w : Int) : Tb := { has := fun x => t.has x && (t.h x != w), n := fun x => bif t.has x && (t.h x != w) then t.n x else 0, h := fun x => bif t.has x && (t.h x != w) then t.h x else 0, sz := (keepE t w t.sz).length }
theorem fg_sort {t : Tb} (hk : KeyG t.has t.sz) (w : Int) : sortK (fgT t w).has = (keepE t w t.sz).map fun e => (keyAt t.has e).data.toList := by
  have e1 : (keepE t w t.sz).map (fun e => (keyAt t.has e).data.toList) = (sortK t.has).filter fun l => t.h ⟨⟨l⟩⟩ != w := by
    have e2 : sortK t.has = (List.range t.sz).map fun e => (keyAt t.has e).data.toList := by
      refine List.ext_getElem? fun i => ?_
      by_cases hi : i < t.sz
      · rw [getD_key hk hi, List.getElem?_map, List.getElem?_range hi]; rfl
      · rw [List.getElem?_eq_none (by rw [hk.len]; omega), List.getElem?_eq_none (by simp; omega)]
    rw [e2, List.filter_map]; rfl
  rw [e1]
  refine sorted_ext ((sortK_lt hk).sublist List.filter_sublist) fun x => ?_
  rw [List.mem_filter, hk.mem x]
  show _ ↔ (t.has ⟨⟨x⟩⟩ && (t.h ⟨⟨x⟩⟩ != w)) = true
  rw [Bool.and_eq_true]
theorem keyG_fg {t : Tb} (hk : KeyG t.has t.sz) (w : Int) : KeyG (fgT t w).has (fgT t w).sz := by
  have h := fg_sort hk w
  refine ⟨by rw [h, List.length_map]; rfl, fun x => ?_, ?_⟩
  · have : x ∈ sortK (fgT t w).has ↔ (fgT t w).has ⟨⟨x⟩⟩ = true := by
      rw [h]
      constructor
      · intro hx
        obtain ⟨e, he, rfl⟩ := List.mem_map.1 hx
        obtain ⟨h1, h2⟩ := List.mem_filter.1 he
        show (t.has _ && (t.h _ != w)) = true
        rw [Bool.and_eq_true]
        exact ⟨hk.at (List.mem_range.1 h1), h2⟩
      · intro hx
        replace hx : (t.has ⟨⟨x⟩⟩ && (t.h ⟨⟨x⟩⟩ != w)) = true := hx
        rw [Bool.and_eq_true] at hx
        obtain ⟨e, he, h2⟩ := hk.ex hx.1
        exact List.mem_map.2 ⟨e, List.mem_filter.2 ⟨List.mem_range.2 he, by rw [h2]; exact hx.2⟩, by rw [h2]⟩
    exact this
  · rw [h]
    refine List.nodup_iff_pairwise_ne.2 (List.pairwise_map.2 ?_)
    have h1 : (keepE t w t.sz).Nodup := List.nodup_range.sublist List.filter_sublist
    refine (List.nodup_iff_pairwise_ne.1 h1).imp_of_mem fun {a b} ha hb hab e => hab ?_
    exact hk.inj (List.mem_range.1 (List.mem_filter.1 ha).1) (List.mem_range.1 (List.mem_filter.1 hb).1) (ByteArray.ext (Array.ext' e))
theorem fg_key {t : Tb} (hk : KeyG t.has t.sz) (w : Int) {e : Nat} (he : e < (fgT t w).sz) : keyAt (fgT t w).has e = keyAt t.has ((keepE t w t.sz).getD e 0) := by
  have he' : e < (keepE t w t.sz).length := he
  have e1 : (sortK (fgT t w).has).getD e [] = (keyAt t.has ((keepE t w t.sz).getD e 0)).data.toList := by
    rw [fg_sort hk w]
    simp [List.getD_eq_getElem?_getD, List.getElem?_map, List.getElem?_eq_getElem he']
  show (⟨⟨(sortK (fgT t w).has).getD e []⟩⟩ : ByteArray) = _
  rw [e1]
theorem nrm_fg {t : Tb} {w : Int} : Nrm (fgT t w) := by
  intro s hs
  replace hs : (t.has s && (t.h s != w)) = false := hs
  exact ⟨by show (bif _ then _ else _) = _; rw [hs]; rfl, by show (bif _ then _ else _) = _; rw [hs]; rfl⟩
theorem nrm_put {t : Tb} (hn : Nrm t) {s : ByteArray} {v h : Int} : Nrm (putT t s v h) := by
  unfold putT
  cases (putK t s h == 0) with
  | false => exact hn
  | true =>
    intro x hx
    have hne : x ≠ s := fun e => by subst e; rw [cond_true] at hx; rw [show (putU t x v h).has x = true from updS_self] at hx; cases hx
    replace hx : updS t.has s x = false := hx
    rw [updS_ne hne] at hx
    refine ⟨?_, ?_⟩
    · show (bif strEq x s then v else t.n x) = 0
      rw [strEq_ne hne]; exact (hn x hx).1
    · show (bif strEq x s then h else t.h x) = 0
      rw [strEq_ne hne]; exact (hn x hx).2
theorem keyG_put {t : Tb} (hk : KeyG t.has t.sz) {s : ByteArray} {v h : Int} : KeyG (putT t s v h).has (putT t s v h).sz := by
  unfold putT
  cases (putK t s h == 0) with
  | false => exact hk
  | true =>
    show KeyG (updS t.has s) (bif t.has s then t.sz else t.sz + 1)
    cases hs : t.has s with
    | true => rw [upS_has hs]; exact hk
    | false => exact keyG_ins hk hs
end Go.Proofs.Ytobdoejkioenhaa
namespace Go.Proofs.Ytobdoejkioenhaa
open Go Go.Ly Go.RowKit Go.Maps Go.Shelf
def Rs : Value → Option (DataW Value × List MemPlace) := fun v => match v with
  | .agg ⟨[.string s, .int .u16 n, .int .i64 h]⟩ => some (.held (symV s n h), [])
  | _ => none
theorem Rs_inv {v : Value} {y : DataW Value × List MemPlace} (h : Rs v = some y) : ∃ c : ByteArray × Int × Int, v = symV c.1 c.2.1 c.2.2 ∧ y = (.held v, []) := by
  unfold Rs at h
  split at h
  · rename_i s n h'
    exact ⟨(s, n, h'), rfl, (Option.some.inj h).symm⟩
  · cases h
def pdS (x : Int) : Lit → DataW Value → Bool := fun _ d => match d with
  | .held (.agg ⟨[.string s, .int .u16 n, .int .i64 h]⟩) => h == x
  | _ => false
theorem pdS_symV (x : Int) (kl : Lit) (s : ByteArray) (n h : Int) : pdS x kl (.held (symV s n h)) = (h == x) := rfl
theorem law9 : Keyed Try.prog 9 := string_keyed Try.underlying9
set_option maxHeartbeats 400000 in
theorem closure30 (k : ByteArray) (s : ByteArray) (n h x : Int) (bx : Nat) (W : World) (hx : W.cell? ⟨bx, 0, none⟩ = some (.int .i64 x)) :
    Calls Try.prog 30 (#[.string k, symV s n h] ++ #[.pointer (some ⟨bx, 0, none⟩)]) W fun e w' => e = .returned (.bool (h == x)) ∧ W.grownBy w' none := by
  have hx2 : ∀ o, (W.alloc o).cell? ⟨bx, 0, none⟩ = some (.int .i64 x) := fun o => by rw [World.cell?_alloc_lt _ _ _ (World.block_lt_of_cell? W _ hx)]; exact hx
  have hx3 := hx2 (.cells ⟨[Value.string s, Value.int .u16 n, Value.int .i64 h]⟩ 41)
  clear hx2
  unfold symV
  go_enter Try.func30, Try.ntmps30
  go_wp2
  go_ret
  exact ⟨rfl, World.grownBy_alloc _ _ none⟩
set_option maxHeartbeats 4000000 in
set_option maxRecDepth 100000 in
theorem del_any (b n cb : Nat) (x : Int) (D : DataW Value) (w : World) (hown : w.ownsMap Try.prog 9 Rs b n D) (hx : w.cell? ⟨cb, 0, none⟩ = some (.int .i64 x)) (hcb : cb ≠ b) :
    Calls Try.prog 29 #[.map (some b), .func (.func 30) #[] #[.pointer (some ⟨cb, 0, none⟩)]] w fun e w' => e = .returned (.tuple #[]) ∧ w'.ownsMap Try.prog 9 Rs b n (Lib.deleteFuncD (pdS x) D) ∧ w.grownBy w' (some b) := by
  obtain ⟨es0, rfl, hap, hkeys⟩ := hown.entries law9
  have HX : Aside _ := hx
  clear hx
  have eg : ∀ args w, (callFunc 30 args).run Try.prog w = .ok (.enter 30 args) w := enters_of Try.func30 (by kernel_rfl) rfl
  go_enter Try.func29, Try.ntmps29
  go_wp2_with (first
    | (at_range; refine wpList_range_own _ rfl _ 52 rfl 9 41 law9 Try.underlying52 Rs b n _ rfl hown ?_; intro w0 hrg0 hg0 hs0)
    | go_in)
  go_frame
  go_loopw [8] (fun _ wr => ∃ (left : Lit → Bool) (cnt : Nat), wr.ranges Try.prog 9 Rs b w.heap.size n (Fk (pdS x) es0 left) left cnt ∧ w.grownBy wr (some b))
    (fun _ wr => wr.rangeLeft b w.heap.size)
  case atStart => exact ⟨_, _, by rw [Fk_start hkeys]; exact hrg0, hg0.but _⟩
  case round =>
    obtain ⟨left, cnt, hrg, hgw⟩ := hrel
    go_wp2_with (first
      | (at_next; refine wpList_next_ranges _ rfl _ rfl 9 law9 Rs id (fun c : ByteArray × Int × Int => symV c.1 c.2.1 c.2.2) (fun key _ _ => ⟨key, rfl⟩) (fun v _ hv => by obtain ⟨c, h1, _⟩ := Rs_inv hv; exact ⟨c, h1⟩) b w.heap.size n _ _ _ rfl hrg ?_ ?_)
      | go_in)
    · intro _ hl0
      go_wp2
      go_end0
      exact ⟨rfl, by rw [← Fk_end hl0]; exact hrg.owns, hgw⟩
    · intro xk s nn hh kl yd yp w1 cnt1 hkey hlx hv hat hrg1 hlt hg1 hs1 hen
      have hy : yd = .held (symV s nn hh) := (Prod.mk.inj (Option.some.inj hv)).1.symm
      subst hy
      have hgw1 := hgw.andThen hg1 (fun j hj => by cases hj; exact Or.inl (Nat.le_refl _))
      have hxk : ∃ sk : ByteArray, xk = .string sk := by
        cases xk <;> simp [keyOf, mapKey, Try.underlying9] at hkey
        exact ⟨_, rfl⟩
      obtain ⟨sk, rfl⟩ := hxk
      simp only [id, symV] at hen
      unfold symV
      have hgw2 := hgw1.andThen (World.grownBy_alloc w1 (.cells ⟨[Value.string s, Value.int .u16 nn, Value.int .i64 hh]⟩ 41) none) (fun j hj => by cases hj)
      have hrg1a := hrg1.alloc (.cells ⟨[Value.string s, Value.int .u16 nn, Value.int .i64 hh]⟩ 41)
      have hc := closure30 sk s nn hh x cb _ (hgw2.cell HX.out (fun e => by have := Option.some.inj e; simp at this; omega))
      have hbl := hrg1.owns.lt
      have hrl := hrg1.lt
      cases hp : (hh == x) <;> rw [hp] at hc
      · go_wp2_with (first
          | (go_at_fn 30; refine hc.mono ?_; rintro e w2 ⟨rfl, hg2⟩)
          | go_in)
        have hrg2 := hrg1a.kept hg2 (by simp) (by simp)
        go_roundw
        case rel => exact ⟨_, cnt1, by rw [← Fk_stays hap (law9.key hkey) hlx (show pdS x kl _ = false by rw [pdS_symV]; exact hp) hat]; exact hrg2, hgw2.andThen hg2 (fun j hj => by cases hj)⟩
        case measure => rw [hrg2.left_eq, hrg.left_eq]; exact hlt
      · go_wp2_with (first
          | (go_at_fn 30; refine hc.mono ?_; rintro e w2 ⟨rfl, hg2⟩; have hrg2 := hrg1a.kept hg2 (by simp) (by simp))
          | (at_delete; refine wpList_delete_ranges _ rfl _ _ 52 9 rfl 41 law9 Try.underlying52 Rs b w.heap.size n _ _ _ rfl hrg2 _ _ rfl hkey ?_; intro w3 cnt3 hrg3 hle hturn; go_frame)
          | go_in)
        rw [strike_twice] at hrg3
        go_roundw
        case rel => exact ⟨_, cnt3, by rw [← Fk_struck hap (law9.key hkey) hlx (show pdS x kl _ = true by rw [pdS_symV]; exact hp) hat]; exact hrg3, (hgw2.andThen hg2 (fun j hj => by cases hj)).andThen hturn.grown (fun j hj => by cases hj; exact Or.inr rfl)⟩
        case measure => rw [hrg3.left_eq, hrg.left_eq]; omega
def DSof (es : List MapEntry) : DataW Value := .map ((es.map (Go.WideElems.rg Try.prog 9 Rs)).foldr DataW.insert [])
section
variable {t : Tb} {es : Array MapEntry} {cl : Nat}
theorem rds_of (h : MapIs (fun s => symV s (t.n s) (t.h s)) t.has t.sz es.toList cl) (hk : ∀ s, t.has s = true → s.size ≤ 1000000) (e : MapEntry) (he : e ∈ es.toList) : Go.WideElems.rd Try.prog 9 Rs e = some (.string (kb e), .held e.val) := by
  obtain ⟨s, h1, h2, h3, _⟩ := h.key e he
  have hs : s.size ≤ maxLen := by have := hk s h2; unfold maxLen; omega
  unfold Go.WideElems.rd kb
  rw [h1, Go.WideMaps.keyOf_string_mk und9 hs, h3]; rfl
theorem ownss_of {w : World} {b : Nat} (hb : w.heap[b]? = some (.map es cl)) (h : MapIs (fun s => symV s (t.n s) (t.h s)) t.has t.sz es.toList cl) (hk : ∀ s, t.has s = true → s.size ≤ 1000000) (hn : t.sz ≤ 1000000) : w.ownsMap Try.prog 9 Rs b t.sz (DSof es.toList) := by
  have hsz : es.size = t.sz := by simpa using h.len
  refine ⟨es, cl, hb, ⟨by unfold maxLen; omega, ⟨h.born, ?_, ?_⟩, fun x hx => ⟨_, rds_of h hk x hx⟩⟩, by omega, rfl⟩
  · exact List.pairwise_map.2 (h.once.imp fun {a b} hab => hab.2)
  · exact List.pairwise_map.2 (h.once.imp fun {a b} hab => hab.1)
theorem keyOf_str {v : Value} {l : List UInt8} (h : keyOf Try.prog 9 v = some (.string l)) : v = .string ⟨⟨l⟩⟩ := by
  cases v <;> simp [keyOf, mapKey, Try.underlying9] at h
  rename_i s
  rw [← h.2]
theorem del_map {w : World} {b : Nat} {x : Int} (h : MapIs (fun s => symV s (t.n s) (t.h s)) t.has t.sz es.toList cl) (hk : ∀ s, t.has s = true → s.size ≤ 1000000)
    (hown : w.ownsMap Try.prog 9 Rs b t.sz (Lib.deleteFuncD (pdS x) (DSof es.toList))) : ∃ es' cl', w.heap[b]? = some (.map es' cl') ∧ MapIs (fun s => symV s ((fgT t x).n s) ((fgT t x).h s)) (fgT t x).has (fgT t x).sz es'.toList cl' := by
  have hL := keyG_of (keyL_of h)
  rw [List.length_map, h.len] at hL
  obtain ⟨es', cl', hb', F, hs', hD⟩ := hown
  have hD' : ((es.toList.map (Go.WideElems.rg Try.prog 9 Rs)).foldr DataW.insert []).filter (fun p => !pdS x p.1 p.2) = (es'.toList.map (Go.WideElems.rg Try.prog 9 Rs)).foldr DataW.insert [] := by
    have : DataW.map _ = DataW.map _ := hD
    exact DataW.map.inj this
  have hmem : ∀ p, p ∈ es'.toList.map (Go.WideElems.rg Try.prog 9 Rs) ↔ (p ∈ es.toList.map (Go.WideElems.rg Try.prog 9 Rs) ∧ pdS x p.1 p.2 = false) := fun p => by
    rw [← mem_sorted, ← hD', List.mem_filter, mem_sorted]; simp
  have hfit : ∀ e ∈ es.toList, ∃ s, e.key = .string s ∧ t.has s = true ∧ Go.WideElems.rg Try.prog 9 Rs e = (.string s.data.toList, .held (symV s (t.n s) (t.h s))) := fun e he => by
    obtain ⟨s, h1, h2, h3, _⟩ := h.key e he
    refine ⟨s, h1, h2, ?_⟩
    unfold Go.WideElems.rg
    rw [rds_of h hk e he, Option.getD_some, h3]
    unfold kb; rw [h1]
  have back : ∀ e' ∈ es'.toList, ∀ s v, Go.WideElems.rg Try.prog 9 Rs e' = (.string s, .held v) → e'.key = .string ⟨⟨s⟩⟩ ∧ e'.val = v := fun e' he' s v hr => by
    obtain ⟨y, hy⟩ := F.reads e' he'
    have e1 : Go.WideElems.rg Try.prog 9 Rs e' = y := Go.WideElems.rg_of hy
    rw [e1] at hr; subst hr
    refine ⟨keyOf_str (Go.WideElems.rd_key hy), ?_⟩
    obtain ⟨z, hz, hz2⟩ := Go.WideElems.rd_val hy
    obtain ⟨c, hc, rfl⟩ := Rs_inv hz
    exact (DataW.held.inj hz2).symm
  have stays : ∀ s, t.has s = true → (t.h s == x) = false → (fgT t x).has s = true ∧ (fgT t x).n s = t.n s ∧ (fgT t x).h s = t.h s := fun s h1 h2 => by
    have e : (t.has s && (t.h s != x)) = true := by rw [h1]; simp only [bne, h2]; rfl
    exact ⟨e, by show (bif _ then _ else _) = _; rw [e]; rfl, by show (bif _ then _ else _) = _; rw [e]; rfl⟩
  have hM : MapIs (fun s => symV s ((fgT t x).n s) ((fgT t x).h s)) (fgT t x).has es'.toList.length es'.toList cl' := by
    refine ⟨rfl, fun e' he' => ?_, fun s hs => ?_, ?_, F.stamped.1⟩
    · obtain ⟨h1, h2⟩ := (hmem _).1 (List.mem_map.2 ⟨e', he', rfl⟩)
      obtain ⟨e, he, h3⟩ := List.mem_map.1 h1
      obtain ⟨s, h4, h5, h6⟩ := hfit e he
      rw [h6] at h3
      obtain ⟨b1, b2⟩ := back e' he' _ _ h3.symm
      rw [← h3] at h2
      obtain ⟨s1, s2, s3⟩ := stays s h5 h2
      exact ⟨s, b1, s1, by rw [b2, s2, s3], rfl⟩
    · have hs' : (t.has s && (t.h s != x)) = true := hs
      rw [Bool.and_eq_true] at hs'
      obtain ⟨e, he, hke⟩ := h.all s hs'.1
      obtain ⟨s2, h4, h5, h6⟩ := hfit e he
      obtain rfl : s2 = s := by rw [hke] at h4; exact (Value.string.inj h4).symm
      have hm := (hmem (Go.WideElems.rg Try.prog 9 Rs e)).2 ⟨List.mem_map.2 ⟨e, he, rfl⟩, by rw [h6]; show (t.h s2 == x) = false; have := hs'.2; simpa [bne] using this⟩
      obtain ⟨e', he', h7⟩ := List.mem_map.1 hm
      rw [h6] at h7
      exact ⟨e', he', (back e' he' _ _ h7).1⟩
    · have hst := (Go.MapKept.stamped_iff _ _).1 F.stamped
      have hbn : es'.toList.Pairwise (fun a b => a.born ≠ b.born) := List.pairwise_map.1 hst.2.1
      exact (hst.2.2.and hbn)
  have e1 := (keyG_of (keyL_of hM)).len
  rw [List.length_map] at e1
  have e2 := (keyG_fg hL x).len
  rw [e1] at e2
  exact ⟨es', cl', hb', by rw [← e2]; exact hM⟩
end
def delE (H : Heap) (args : List Value) : ER :=
  match args with
  | [.map (some r), .func (.func 30) ⟨[]⟩ ⟨[.pointer (some ⟨q, 0, none⟩)]⟩] =>
    match H.get q, H.get r with
    | some (.cells [.int .i64 x] _), some (.mp g has n) => bif Nat.beq H.lock 0 && !(Nat.beq q r) then
        .tst (propB (keyOk has n ∧ symOk g has n)) (.mem (.tuple ⟨[]⟩) (H.put r (mpOf (fgT (tbOf g has n) x)))) .no else .no
    | _, _ => .no
  | _ => .no
theorem del_good (H : Heap) (args : List Value) : HGood Try.prog 29 args H (delE H args) := by
  unfold delE
  split
  · rename_i r q
    split
    · rename_i x ty g has n hq hg
      cases hc : (Nat.beq H.lock 0 && !(Nat.beq q r)) with
      | false => exact trivial
      | true =>
      simp only [cond_true]
      simp only [Bool.and_eq_true, Bool.not_eq_true'] at hc
      have hl := Nat.eq_of_beq_eq_true hc.1
      have hqr : q ≠ r := fun e => by rw [e, Nat.beq_refl] at hc; cases hc.2
      refine ⟨fun hok => ?_, fun _ => trivial⟩
      obtain ⟨hok, hsy⟩ := propB_iff.1 hok
      let t := tbOf g has n
      have hg' : H.get r = some (mpOf t) := by rw [hg]; exact congrArg some hsy
      intro ρ args' w ha hr
      simp only [VRL, VR] at ha
      obtain ⟨_, _, ⟨bm, hbm, rfl⟩, ⟨_, _, ⟨xs', ys', rfl, ⟨_, _, ⟨b, hb, rfl⟩, rfl, rfl⟩, rfl⟩, rfl, rfl⟩, rfl⟩ := ha
      obtain ⟨_, b', o', hb', ho, h0, c', hcv, rfl⟩ := hr.obj q _ hq rfl
      obtain rfl : b' = b := by rw [hb] at hb'; exact (Option.some.inj hb').symm
      simp only [VRL, VR] at hcv
      obtain ⟨_, _, rfl, rfl, rfl⟩ := hcv
      obtain ⟨_, bm', om, hbm', hom, hm0, hmw, es, cl, rfl, hmap⟩ := hr.obj r _ hg' rfl
      obtain rfl : bm' = bm := by rw [hbm] at hbm'; exact (Option.some.inj hbm').symm
      have hat : ρ.at ⟨q, 0, none⟩ = 0 := by unfold Ly.Ren.at; rw [h0]; rfl
      rw [hat]
      have hne : b' ≠ bm' := fun e => by subst e; exact hqr (hr.inj q r b' _ hq rfl (by rw [hg']; rfl) hb hbm)
      have hown := ownss_of (w := w) hom hmap hok.2 hok.1
      refine (del_any bm' n b' x (DSof es.toList) w hown (by simp [World.cell?, ho]) hne).mono ?_
      rintro e w' ⟨rfl, ho2, hgr⟩
      obtain ⟨es', cl', hb2, hm2⟩ := del_map hmap hok.2 ho2
      obtain ⟨k1, k2⟩ := hr.put (o := mpOf (fgT t x)) (o' := .map es' cl') hg' rfl rfl hbm (by rw [hl]; exact Nat.zero_le _) ⟨hm0, hmw, es', cl', rfl, hm2⟩
      have hsz : (World.setBlk w bm' (.map es' cl')).heap.size = w.heap.size := by simp [World.setBlk]
      have hbel : Below (World.setBlk w bm' (.map es' cl')).heap.size (World.setBlk w bm' (.map es' cl')) w' := by
        refine ⟨hgr.os, hgr.tape, hgr.output, by rw [hsz]; exact hgr.size, fun k hk => ?_⟩
        rw [hsz] at hk
        by_cases e : k = bm'
        · subst e; rw [hb2]; simp [World.setBlk, hk]
        · rw [hgr.block k hk (fun e1 => e (Option.some.inj e1))]
          simp only [World.setBlk]
          rw [Array.getElem?_setIfInBounds_ne (fun e1 => e e1.symm)]
      obtain ⟨k3, k4⟩ := rep_below k1 hbel
      refine ⟨ρ, _, _, _, rfl, ⟨rfl, rfl⟩, Ren.le_refl _, Fresh.refl _ _, by simp [VR, VRL], k3, ?_⟩
      exact ⟨hgr.os, hgr.tape, hgr.output, hgr.size, fun k hk h => (k4.block k (by rw [hsz]; exact hk) h).trans (k2.block k hk h)⟩
    · exact trivial
  · exact trivial
end Go.Proofs.Ytobdoejkioenhaa
namespace Go.Proofs.Ytobdoejkioenhaa
open Go Go.Ly Go.RowKit
def leD : St := Ly.start Try.f26 [] H0
def leS (a b : ByteArray) : St := Ly.start Try.f26 [.string a, .string b] H0
def leK : List KI := ((Ly.run ctxS 11 [] (leS ⟨⟨[]⟩⟩ ⟨⟨[]⟩⟩)).st leD).top.k
def leV (a b : ByteArray) (i : Int) : List Value := slots Try.f26.ntmps [(0, .string a), (1, .string b), (5, .int .i64 i)]
def byI (a : ByteArray) (i : Int) : Int := ((a.data.toList.getD i.toNat 0).toNat : Int)
def leB (a b : ByteArray) (i : Int) (c : Bool) : List (Bool × Bool) := [(decide (i < (a.size : Int)) == true, true), (decide (i < (b.size : Int)), true), (decide (0 ≤ i) && decide (i < (a.size : Int)), true), (decide (0 ≤ i) && decide (i < (b.size : Int)), true), (byI a i != byI b i, c)]
def leE (a b : ByteArray) (i : Int) : List (Bool × Bool) := [(decide (0 ≤ i) && decide (i < (a.size : Int)), true), (decide (0 ≤ i) && decide (i < (b.size : Int)), true)]
def leH (a b : ByteArray) (i : Int) : St := mkSt Try.f26 leK none 0 (leV a b i) []
section
variable (a b : ByteArray) (i : Int)
theorem le0 : headAt [0, 1, 5] [] leD (Ly.run ctxS 11 [] (leS a b)) = (true, [], true, (Try.f26, leK, none, 0), leV a b 0, []) := by kernel_rfl
theorem le1 : headAt [0, 1, 5] [] leD (Ly.run ctxS 29 [(0, true), (4, true), (0, true), (0, true), (0, false)] (leH a b i)) = (true, leB a b i false, true, (Try.f26, leK, none, 0), leV a b (IntKind.i64.wrap (i + 1)), []) := by kernel_rfl
theorem le2 : (Ly.run ctxS 60 [(0, true), (4, true), (0, true), (0, true), (0, true), (0, true), (0, true)] (leH a b i)).out? = some (leB a b i true ++ leE a b i, .bool (decide (byI a i < byI b i))) := by kernel_rfl
theorem le3 : (Ly.run ctxS 60 [(0, true), (4, false)] (leH a b i)).out? = some ([(decide (i < (a.size : Int)) == true, true), (decide (i < (b.size : Int)), false)], .bool (decide ((a.size : Int) < (b.size : Int)))) := by kernel_rfl
theorem le4 : (Ly.run ctxS 60 [(0, false)] (leH a b i)).out? = some ([(decide (i < (a.size : Int)) == true, false)], .bool (decide ((a.size : Int) < (b.size : Int)))) := by kernel_rfl
end
theorem lt_at {a b : List UInt8} : ∀ (i : Nat), (∀ j, j < i → a.getD j 0 = b.getD j 0) → i < a.length → i < b.length → a.getD i 0 ≠ b.getD i 0 → (decide (a < b) = decide ((a.getD i 0).toNat < (b.getD i 0).toNat)) := by
  induction a generalizing b with
  | nil => intro i _ h1 _ _; simp at h1
  | cons x a ih =>
    intro i he h1 h2 hne
    cases b with
    | nil => simp at h2
    | cons y b =>
      cases i with
      | zero =>
        have hxy : x ≠ y := by simpa using hne
        simp only [List.getD_cons_zero]
        refine decide_eq_decide.2 ⟨fun h => ?_, fun h => ?_⟩
        · rcases List.cons_lt_cons_iff.1 h with h | ⟨h, _⟩
          · exact h
          · exact absurd h hxy
        · exact List.cons_lt_cons_iff.2 (.inl h)
      | succ i =>
        have h0 : x = y := by simpa using he 0 (by omega)
        subst h0
        simp only [List.getD_cons_succ]
        have := ih (b := b) i (fun j hj => by simpa using he (j + 1) (by omega)) (by simpa using h1) (by simpa using h2) (by simpa using hne)
        rw [← this]
        exact decide_eq_decide.2 (List.cons_lt_cons_iff.trans ⟨fun h => by rcases h with h | ⟨_, h⟩; exact absurd h (by simp); exact h, fun h => .inr ⟨rfl, h⟩⟩)
theorem lt_end {a b : List UInt8} (h : ∀ j, j < a.length → j < b.length → a.getD j 0 = b.getD j 0) : decide (a < b) = decide (a.length < b.length) := by
  induction a generalizing b with
  | nil => cases b <;> simp
  | cons x a ih =>
    cases b with
    | nil => simp
    | cons y b =>
      have h0 : x = y := by simpa using h 0 (by simp) (by simp)
      subst h0
      have := ih (b := b) (fun j h1 h2 => by simpa using h (j + 1) (by simpa using h1) (by simpa using h2))
      have e1 : decide (x :: a < x :: b) = decide (a < b) := decide_eq_decide.2 (List.cons_lt_cons_iff.trans ⟨fun h => by rcases h with h | ⟨_, h⟩; exact absurd h (by simp); exact h, fun h => .inr ⟨rfl, h⟩⟩)
      rw [e1, this]; simp
theorem byI_nat (a : ByteArray) (j : Nat) : byI a (j : Int) = ((a.data.toList.getD j 0).toNat : Int) := by unfold byI; rw [Int.toNat_natCast]
theorem byI_eq {a b : ByteArray} {j : Nat} : byI a (j : Int) = byI b (j : Int) ↔ a.data.toList.getD j 0 = b.data.toList.getD j 0 := by
  rw [byI_nat, byI_nat]
  exact ⟨fun h => UInt8.toNat_inj.1 (by exact_mod_cast h), fun h => by rw [h]⟩
theorem baLen (a : ByteArray) : a.data.toList.length = a.size := Array.length_toList
theorem le_loop {a b : ByteArray} (ha : a.size ≤ 1000000) (hb : b.size ≤ 1000000) : ∀ (d i : Nat), i ≤ a.size → i ≤ b.size → a.size - i = d → (∀ j, j < i → a.data.toList.getD j 0 = b.data.toList.getD j 0) → MWp Try.prog (leH a b (i : Int)) (fun v _ => v = .bool (lessB a b))
  | d, i, h1, h2, hd, he => by
    by_cases ha2 : i < a.size
    · by_cases hb2 : i < b.size
      · have d1 : (decide ((i : Int) < (a.size : Int)) == true) = true := by rw [decide_eq_true (show (i : Int) < (a.size : Int) by omega)]; rfl
        have d2 : decide ((i : Int) < (b.size : Int)) = true := decide_eq_true (by omega)
        have d3 : (decide (0 ≤ (i : Int)) && decide ((i : Int) < (a.size : Int))) = true := by simp; omega
        have d4 : (decide (0 ≤ (i : Int)) && decide ((i : Int) < (b.size : Int))) = true := by simp; omega
        have hw : IntKind.i64.wrap ((i : Int) + 1) = ((i + 1 : Nat) : Int) := by rw [IntKind.wrap_i64]; omega
        by_cases hq : a.data.toList.getD i 0 = b.data.toList.getD i 0
        · refine MWp.head ctxS_ok _ _ _ _ (le1 a b i) ⟨d1, d2, d3, d4, by rw [byI_eq.2 hq]; exact bne_self_eq_false _, trivial⟩ (fun o ho => nomatch ho) ?_
          rw [hw]
          cases d with
          | zero => omega
          | succ d =>
          refine le_loop ha hb d (i + 1) (by omega) (by omega) (by omega) (fun j hj => ?_)
          by_cases hji : j = i
          · rw [hji]; exact hq
          · exact he j (by omega)
        · have hq2 : (byI a (i : Int) != byI b (i : Int)) = true := by
            rw [bne_iff_ne]; exact fun h => hq (byI_eq.1 h)
          refine MWp.out ctxS_ok 60 _ (le2 a b i) ⟨d1, d2, d3, d4, hq2, d3, d4, trivial⟩ (fun _ => ?_)
          unfold lessB
          rw [lt_at i he (by rw [baLen]; exact ha2) (by rw [baLen]; exact hb2) hq, byI_nat, byI_nat]
          congr 1; exact decide_eq_decide.2 (by omega)
      · refine MWp.out ctxS_ok 60 _ (le3 a b i) ⟨by rw [decide_eq_true (show (i : Int) < (a.size : Int) by omega)]; rfl, decide_eq_false (by omega), trivial⟩ (fun _ => ?_)
        unfold lessB
        rw [lt_end fun j _ h4 => he j (by rw [baLen] at h4; omega), baLen, baLen]
        congr 1; exact decide_eq_decide.2 (by omega)
    · refine MWp.out ctxS_ok 60 _ (le4 a b i) ⟨by rw [decide_eq_false (show ¬ (i : Int) < (a.size : Int) by omega)]; rfl, trivial⟩ (fun _ => ?_)
      unfold lessB
      rw [lt_end fun j h3 _ => he j (by rw [baLen] at h3; omega), baLen, baLen]
      congr 1; exact decide_eq_decide.2 (by omega)
theorem gLe : ctxS.fn.get 26 = some Try.f26 := by kernel_rfl
theorem le_calls {a b : ByteArray} (ha : a.size ≤ 1000000) (hb : b.size ≤ 1000000) : LCalls Try.prog 26 [.string a, .string b] H0 (fun u _ => u = .bool (lessB a b)) := by
  refine LCalls_of ctxS_ok gLe (by kernel_rfl) ?_
  refine MWp.head ctxS_ok _ _ _ _ (le0 a b) trivial (fun o ho => nomatch ho) ?_
  exact le_loop ha hb _ 0 (by omega) (by omega) rfl (fun j hj => by omega)
def lessC (l : List Value) : Option (Bool × Value) := match l with
  | [.string a, .string b] => some (Nat.ble a.size 1000000 && Nat.ble b.size 1000000, .bool (lessB a b))
  | _ => none
theorem less_ans : Answers Try.prog 26 lessC := by
  intro args g v h hg
  unfold lessC at h
  split at h
  · rename_i a b
    simp only [Option.some.injEq, Prod.mk.injEq] at h
    obtain ⟨rfl, rfl⟩ := h
    rw [Bool.and_eq_true] at hg
    exact ⟨by simp [plain, plainL], by simp [plain], fun w => calls_plain (by simp [VRL, VR]) (fun ρ v' h => by simpa [VR] using h) (le_calls (Nat.le_of_ble_eq_true hg.1) (Nat.le_of_ble_eq_true hg.2)) w⟩
  · cases h
def fiD : St := Ly.start Try.f25 [] H0
def fiS (G : Nat → Nat → Value) (n : Nat) (s : ByteArray) : St := Ly.start Try.f25 [sls 0 n, .string s] (mkH [some (.arg 3 G n)])
def fiK : List KI := ((Ly.run ctxS 11 [] (fiS (symF bkN bkZ bkZ) 0 ⟨⟨[]⟩⟩)).st fiD).top.k
def fiV (n : Nat) (s : ByteArray) (i : Int) : List Value := slots Try.f25.ntmps [(0, sls 0 n), (1, .string s), (5, .int .i64 i)]
section
variable (nm : Nat → ByteArray) (ns hs : Nat → Int) (n : Nat) (s : ByteArray) (i : Int)
def fiH : St := mkSt Try.f25 fiK none 1 (fiV n s i) [some (.arg 3 (symF nm ns hs) n)]
def fiT (c : Bool) : List (Bool × Bool) := [(decide (i < (n : Int)), true), (decide (0 ≤ i) && decide (i < (n : Int)), true), (Nat.blt (0 + i.toNat) n, true), (strEq (nm (0 + i.toNat)) s, c)]
theorem fi0 : headAt [0, 1, 5] [0] fiD (Ly.run ctxS 11 [] (fiS (symF nm ns hs) n s)) = (true, [], true, (Try.f25, fiK, none, 1), fiV n s 0, [some (.arg 3 (symF nm ns hs) n)]) := by kernel_rfl
theorem fi1 : headAt [0, 1, 5] [0] fiD (Ly.run ctxS 31 [(0, true), (0, true), (0, true), (0, false)] (fiH nm ns hs n s i)) = (true, fiT nm n s i false, true, (Try.f25, fiK, none, 1), fiV n s (IntKind.i64.wrap (i + 1)), [some (.arg 3 (symF nm ns hs) n)]) := by kernel_rfl
theorem fi2 : (Ly.run ctxS 60 [(0, true), (0, true), (0, true), (0, true)] (fiH nm ns hs n s i)).out? = some (fiT nm n s i true, .int .i64 i) := by kernel_rfl
theorem fi3 : (Ly.run ctxS 60 [(0, false)] (fiH nm ns hs n s i)).out? = some ([(decide (i < (n : Int)), false)], .int .i64 (-1)) := by kernel_rfl
end
theorem fiZ (s : ByteArray) : (Ly.run ctxS 100 [] (Ly.start Try.f25 [.slice none 0 0, .string s] (mkH []))).out? = some ([], .int .i64 (-1)) := by kernel_rfl
section
variable {nm : Nat → ByteArray} {ns hs : Nat → Int} {n : Nat} {s : ByteArray}
theorem fi_loop (hn : n ≤ 1000000) : ∀ (d i : Nat), i ≤ n → n - i = d → (∀ e, e < i → nm e ≠ s) → MWp Try.prog (fiH nm ns hs n s (i : Int)) (fun v _ => v = .int .i64 (findV nm n s))
  | 0, i, h1, hd, he => by
    have hi : i = n := by omega
    subst hi
    refine MWp.out ctxS_ok 60 _ (fi3 nm ns hs i s i) (by simp [trusted]) (fun _ => ?_)
    have : idxOf nm i s = none := by
      cases h : idxOf nm i s with
      | none => rfl
      | some e => obtain ⟨h2, h3⟩ := idx_some h; exact absurd h3 (he e h2)
    unfold findV; rw [this]
  | d + 1, i, h1, hd, he => by
    have hi : i < n := by omega
    have hz : 0 + (i : Int).toNat = i := by omega
    have hi2 : decide ((i : Int) < (n : Int)) = true := decide_eq_true (by omega)
    have hi3 : (decide (0 ≤ (i : Int)) && decide ((i : Int) < (n : Int))) = true := by simp; omega
    have hi4 : Nat.blt (0 + (i : Int).toNat) n = true := by rw [hz, Nat.blt_eq]; exact hi
    have hw : IntKind.i64.wrap ((i : Int) + 1) = ((i + 1 : Nat) : Int) := by rw [IntKind.wrap_i64]; omega
    by_cases hq : nm i = s
    · refine MWp.out ctxS_ok 60 _ (fi2 nm ns hs n s i) ⟨hi2, hi3, hi4, by rw [hz, hq, strEq_self], trivial⟩ (fun _ => ?_)
      unfold findV; rw [idx_first hi hq he]
    · refine MWp.head ctxS_ok _ _ _ _ (fi1 nm ns hs n s i) ⟨hi2, hi3, hi4, by rw [hz, strEq_ne hq], trivial⟩ plain_bk0 ?_
      rw [hw]
      refine fi_loop hn d (i + 1) (by omega) (by omega) (fun e h => ?_)
      by_cases hei : e = i
      · rw [hei]; exact hq
      · exact he e (by omega)
theorem gFi : ctxS.fn.get 25 = some Try.f25 := by kernel_rfl
theorem fi_calls (hn : n ≤ 1000000) : LCalls Try.prog 25 [sls 0 n, .string s] (mkH [some (.arg 3 (symF nm ns hs) n)]) (fun u _ => u = .int .i64 (findV nm n s)) := by
  refine LCalls_of ctxS_ok gFi (by kernel_rfl) ?_
  refine MWp.head ctxS_ok _ _ _ _ (fi0 nm ns hs n s) trivial plain_bk0 ?_
  exact fi_loop hn _ 0 (by omega) rfl (fun e h => by omega)
end
def findMk (n : Nat) (G : Nat → Nat → Value) (r : List Value) : Bool × Value := match r with
  | [.string s] => (propB (isSym G n), .int .i64 (findV (fun e => strAt (G e 0)) n s))
  | _ => (false, .int .i64 0)
def findE : Heap → List Value → ER := rowsC 3 findMk
theorem find_con (args : List Value) (ρ : Ly.Ren) (args' : List Value) (w : World) (H : Heap) (ha : VRL ρ args args') (hr : Rep ρ H w) : ConGood Try.prog ρ 25 args' w (findE H args) := by
  refine rowsC_good (fun n G r => by unfold findMk; split <;> rfl) (fun n G r hp hg => ?_) (fun G r hp hg => ?_) args ρ args' w H ha hr
  · unfold findMk at hg ⊢
    split at hg
    · have hS := propB_iff.1 hg
      exact LCalls.argEq (asSym_eq hS) (fi_calls hS.1)
    · cases hg
  · unfold findMk at hg ⊢
    split at hg
    · rename_i s
      exact LCalls_trust (v := .int .i64 (-1)) ctxS_ok 100 [] gFi (by kernel_rfl) (t := []) (fiZ s) trivial
    · cases hg
def ctxP : Ctx := (ctxS.with 26 lessC).withC 25 findE
theorem ctxP_ok : ctxP.Ok Try.prog := (ctxS_ok.with less_ans).withC fun args ρ args' w H ha hr => find_con args ρ args' w H ha hr
end Go.Proofs.Ytobdoejkioenhaa
namespace Go.Proofs.Ytobdoejkioenhaa
open Go Go.Ly Go.RowKit
def puO (G : Nat → Nat → Value) (n : Nat) : List (Option LO) := [some (.fn 3 G n 24)]
def puS (G : Nat → Nat → Value) (n : Nat) (s : ByteArray) (v h : Int) : St := Ly.start Try.f10 [sls 0 n, .string s, .int .u16 v, .int .i64 h] (mkH (puO G n))
def puG (nm : Nat → ByteArray) (ns hs : Nat → Int) (n : Nat) : Bool := Nat.ble (0 + n) n && (true && (true && propB (isSym (fun e j => symF nm ns hs (0 + e) j) n)))
def puF (nm : Nat → ByteArray) (n : Nat) (s : ByteArray) : Int := findV (fun e => nm (0 + e)) n s
def puT (s : ByteArray) (h : Int) : List (Bool × Bool) := [((!nameB s) == false, true), (Nat.ble s.size 1000000, true), (!strEq (upS s) s, false), (decide (h < 1) == false, true), (decide (3 < h), false)]
def puP : Path := [(1, true), (1, true), (3, false), (0, true), (2, false), (0, true)]
def puD : St := Ly.start Try.f10 [] H0
def puP2 : Path := puP ++ [(0, false), (0, false)]
def puK : List KI := ((Ly.run ctxP 63 puP2 (puS (symF bkN bkZ bkZ) 0 ⟨⟨[]⟩⟩ 0 0)).st puD).top.k
def puV (n : Nat) (s : ByteArray) (v h k : Int) : List Value := slots Try.f10.ntmps [(0, sls 0 n), (1, .string s), (2, .int .u16 v), (3, .int .i64 h), (12, .int .i64 k)]
def puH (nm : Nat → ByteArray) (ns hs : Nat → Int) (n : Nat) (s : ByteArray) (v h k : Int) : St := mkSt Try.f10 puK none 1 (puV n s v h k) (puO (symF nm ns hs) n)
def puR (nm : Nat → ByteArray) (n : Nat) (s : ByteArray) (k : Int) (c : Bool) : List (Bool × Bool) := [(decide (k < (n : Int)) == true, true), (decide (0 ≤ k) && decide (k < (n : Int)), true), (Nat.blt (0 + k.toNat) n, true), (Nat.ble (nm (0 + k.toNat)).size 1000000 && Nat.ble s.size 1000000, true), (lessB (nm (0 + k.toNat)) s, c)]
def puQ (c : Bool) : Path := [(0, true), (2, true), (2, true), (2, true), (1, c)]
def puX0 (n k : Nat) : Bool := Nat.ble (0 + k) n && (true && Nat.ble (0 + k) 4294967296)
def puX1 (k : Nat) : Bool := Nat.ble (0 + k) 0
def puX2 (k : Nat) : Bool := Nat.beq k 0
def puX3 (n k : Nat) : Bool := true && (decide ((k : Int) ≤ (n : Int)) && decide ((n : Int) ≤ (n : Int)))
def puX4 (n k : Nat) : Bool := Nat.ble (0 + k + (n - k)) n && (true && (true && (true && Nat.ble (1 + (n - k)) 4294967296)))
def puX5 (n k : Nat) : Bool := Nat.ble 1 (1 + (n - k))
def puX6 (k : Nat) : Bool := Nat.ble 1 (0 + k)
def puXs (n k : Nat) : Bool := true && (true && decide ((k : Int) ≤ (n : Int)))
def puY1 (k : Nat) : Bool := true && (Nat.ble (0 + (0 + k)) k && ((Nat.beq 3 3 && (Nat.beq 24 24 && (Nat.beq k (0 + k) && true))) && ((false || Nat.ble 1 (0 + k)) && Nat.ble (0 + k + 1) 4294967296)))
def puY2 (n k : Nat) : Bool := Nat.ble (0 + k + (n - k)) n && (true && (Nat.ble (0 + (0 + k + 1)) (0 + k + 1) && ((Nat.beq 3 3 && (Nat.beq 24 24 && (Nat.beq (0 + k + 1) (0 + k + 1) && true))) && ((false || Nat.ble 1 (0 + k + 1)) && Nat.ble (0 + k + 1 + (n - k)) 4294967296))))
def puY3 (n k : Nat) : Bool := Nat.ble 1 (0 + k + 1 + (n - k))
def st0 (nm : Nat → ByteArray) (ns hs : Nat → Int) (n : Nat) : Bool := propB (some (LO.fn 3 (symF nm ns hs) n 24) = some (LO.fn 3 (symF nm ns hs) n 24))
def st1 (s : ByteArray) (v h : Int) : Bool := propB (some (LO.cells [.string s, .int .u16 v, .int .i64 h] 24) = some (LO.cells [.string s, .int .u16 v, .int .i64 h] 24))
def pX : Path := [(0,true),(0,true),(0,true),(3,true),(0,true),(0,true)]
def pY : Path := [(0,true),(0,false),(0,true),(0,true),(1,true),(0,true),(0,true),(0,true),(0,true),(0,false),(0,true),(0,true),(0,true),(1,true),(0,true),(0,true),(0,true),(0,true)]
def puL (s : ByteArray) (v h : Int) : List Value := [.string s, .int .u16 v, .int .i64 h]
def tX (n k : Nat) : List (Bool × Bool) := [(puXs n k, true), (puX0 n k, true), (puX1 k, true), (puX2 k, true), (puX3 n k, true), (puX4 n k, true), (puX5 n k, true)]
def tY (nm : Nat → ByteArray) (ns hs : Nat → Int) (n : Nat) (s : ByteArray) (v h : Int) (k : Nat) : List (Bool × Bool) := [(puXs n k, true), (puX0 n k, true), (puX1 k, false), (puX6 k, true), (puY1 k, true), (puX3 n k, true), (puY2 n k, true), (puY3 n k, true), (puXs n k, true), (puX0 n k, true), (puX1 k, false), (puX6 k, true), (st0 nm ns hs n, true), (puY1 k, true), (st1 s v h, true), (puX3 n k, true), (puY2 n k, true), (puY3 n k, true), (st0 nm ns hs n, true)]
def gX (nm : Nat → ByteArray) (ns hs : Nat → Int) (s : ByteArray) (v h : Int) (k : Nat) : Nat → Nat → Value := joinG 1 (lstG 3 1 (puL s v h)) (fun e j => symF nm ns hs (0 + k + e) j)
def gY (nm : Nat → ByteArray) (ns hs : Nat → Int) (s : ByteArray) (v h : Int) (k : Nat) : Nat → Nat → Value := joinG (0 + k + 1) (fun e j => joinG (0 + k) (fun e j => symF nm ns hs (0 + (0 + e)) j) (lstG 3 1 (puL s v h)) (0 + e) j) (fun e j => symF nm ns hs (0 + k + e) j)
def puD1 (n : Nat) (i : Int) : List (Bool × Bool) := [(decide (0 ≤ i) && decide (i < (n : Int)), true), (Nat.blt (0 + i.toNat) n, true)]
def tD (nm : Nat → ByteArray) (hs : Nat → Int) (n : Nat) (s : ByteArray) : List (Bool × Bool) := puD1 n (puF nm n s) ++ [(hs (0 + (puF nm n s).toNat) != 3, false), (Nat.ble (0 + n) n && (true && Nat.ble (0 + n) 4294967296), true), (Nat.ble (0 + n) 0, false), (Nat.ble 1 (0 + n), true), (decide (0 ≤ puF nm n s) && decide (puF nm n s < ((0 + n : Nat) : Int)), true), (Nat.blt (0 + (puF nm n s).toNat) n, true)]
def puP3 (nm : Nat → ByteArray) (ns hs : Nat → Int) (n : Nat) (s : ByteArray) (h : Int) : List (Bool × Bool) := puT s h ++ [(puG nm ns hs n, true), (decide (0 ≤ puF nm n s), true)]
def pD : Path := puP ++ [(0, true), (0, true), (2, true), (2, true), (2, false), (0, true), (0, false), (0, true), (0, true), (0, true)]
def erE (n : Nat) (k : Int) : Value := .tuple ⟨[sls 0 n, .int .i64 k]⟩
def gD (nm : Nat → ByteArray) (ns hs : Nat → Int) (n : Nat) (s : ByteArray) (v : Int) : Nat → Nat → Value := updG (fun e j => symF nm ns hs (0 + e) j) (0 + (puF nm n s).toNat) 1 [.int .u16 v]
section
variable (nm : Nat → ByteArray) (ns hs : Nat → Int) (n : Nat) (s : ByteArray) (v h : Int) (i : Int) (k : Nat)
theorem pu0 : headAt [0, 1, 2, 3, 12] [0] puD (Ly.run ctxP 63 puP2 (puS (symF nm ns hs) n s v h)) = (true, puT s h ++ [(puG nm ns hs n, true), (decide (0 ≤ puF nm n s), false), (decide (2048 ≤ (n : Int)), false)], true, (Try.f10, puK, none, 1), puV n s v h 0, puO (symF nm ns hs) n) := by kernel_rfl
theorem pu1 : headAt [0, 1, 2, 3, 12] [0] puD (Ly.run ctxP 27 (puQ true) (puH nm ns hs n s v h i)) = (true, puR nm n s i true, true, (Try.f10, puK, none, 1), puV n s v h (IntKind.i64.wrap (i + 1)), puO (symF nm ns hs) n) := by kernel_rfl
theorem puA : endsAt [0] (Ly.run ctxP 300 [(1, false)] (puS (symF nm ns hs) n s v h)) = some ([((!nameB s) == false, false)], erE n 2, 1, [some (.fn 3 (symF nm ns hs) n 24)]) := by kernel_rfl
theorem puB : endsAt [0] (Ly.run ctxP 300 [(1, true), (1, true), (3, true)] (puS (symF nm ns hs) n s v h)) = some ([((!nameB s) == false, true), (Nat.ble s.size 1000000, true), (!strEq (upS s) s, true)], erE n 2, 1, [some (.fn 3 (symF nm ns hs) n 24)]) := by kernel_rfl
theorem puC : endsAt [0] (Ly.run ctxP 300 [(1, true), (1, true), (3, false), (0, false)] (puS (symF nm ns hs) n s v h)) = some ([((!nameB s) == false, true), (Nat.ble s.size 1000000, true), (!strEq (upS s) s, false), (decide (h < 1) == false, false)], erE n 1, 1, [some (.fn 3 (symF nm ns hs) n 24)]) := by kernel_rfl
theorem puC3 : endsAt [0] (Ly.run ctxP 300 [(1, true), (1, true), (3, false), (0, true), (2, true)] (puS (symF nm ns hs) n s v h)) = some ([((!nameB s) == false, true), (Nat.ble s.size 1000000, true), (!strEq (upS s) s, false), (decide (h < 1) == false, true), (decide (3 < h), true)], erE n 1, 1, [some (.fn 3 (symF nm ns hs) n 24)]) := by kernel_rfl
theorem puE : endsAt [0] (Ly.run ctxP 300 (puP ++ [(0, true), (0, false)]) (puS (symF nm ns hs) n s v h)) = some (puP3 nm ns hs n s h ++ [((h != 3) == false, false)], erE n 4, 1, [some (.fn 3 (symF nm ns hs) n 24)]) := by kernel_rfl
theorem puE2 : endsAt [0] (Ly.run ctxP 300 (puP ++ [(0, true), (0, true), (2, true), (2, true), (2, true)]) (puS (symF nm ns hs) n s v h)) = some (puP3 nm ns hs n s h ++ [((h != 3) == false, true)] ++ puD1 n (puF nm n s) ++ [(hs (0 + (puF nm n s).toNat) != 3, true)], erE n 4, 1, [some (.fn 3 (symF nm ns hs) n 24)]) := by kernel_rfl
theorem puL11 : endsAt [0] (Ly.run ctxP 300 (puP ++ [(0, false), (0, true)]) (puS (symF nm ns hs) n s v h)) = some (puT s h ++ [(puG nm ns hs n, true), (decide (0 ≤ puF nm n s), false), (decide (2048 ≤ (n : Int)), true)], erE n 11, 1, [some (.fn 3 (symF nm ns hs) n 24)]) := by kernel_rfl
theorem puXa : endsAt [0, 4] (Ly.run ctxP 300 ((0, false) :: (8, true) :: pX) (puH nm ns hs n s v h (k : Int))) = some ((decide ((k : Int) < (n : Int)) == true, false) :: tX n k, .tuple ⟨[sls 4 (1 + (n - k)), .int .i64 0]⟩, 5, [some (.fn 3 (symF nm ns hs) n 24), some (.fn 3 (gX nm ns hs s v h k) (1 + (n - k)) 24)]) := by kernel_rfl
theorem puXb : endsAt [0, 4] (Ly.run ctxP 300 (puQ false ++ (0, true) :: pX) (puH nm ns hs n s v h (k : Int))) = some (puR nm n s k false ++ tX n k, .tuple ⟨[sls 4 (1 + (n - k)), .int .i64 0]⟩, 5, [some (.fn 3 (symF nm ns hs) n 24), some (.fn 3 (gX nm ns hs s v h k) (1 + (n - k)) 24)]) := by kernel_rfl
theorem puYa : endsAt [0, 5] (Ly.run ctxP 300 ((0, false) :: (8, true) :: pY) (puH nm ns hs n s v h (k : Int))) = some ((decide ((k : Int) < (n : Int)) == true, false) :: tY nm ns hs n s v h k, .tuple ⟨[sls 5 (0 + k + 1 + (n - k)), .int .i64 0]⟩, 6, [some (.fn 3 (symF nm ns hs) n 24), some (.fn 3 (gY nm ns hs s v h k) (0 + k + 1 + (n - k)) 24)]) := by kernel_rfl
theorem puYb : endsAt [0, 5] (Ly.run ctxP 300 (puQ false ++ (0, true) :: pY) (puH nm ns hs n s v h (k : Int))) = some (puR nm n s k false ++ tY nm ns hs n s v h k, .tuple ⟨[sls 5 (0 + k + 1 + (n - k)), .int .i64 0]⟩, 6, [some (.fn 3 (symF nm ns hs) n 24), some (.fn 3 (gY nm ns hs s v h k) (0 + k + 1 + (n - k)) 24)]) := by kernel_rfl
theorem puDd : endsAt [0, 2] (Ly.run ctxP 300 pD (puS (symF nm ns hs) n s v h)) = some (puP3 nm ns hs n s h ++ ((h != 3) == false, true) :: tD nm hs n s, .tuple ⟨[sls 2 (0 + n), .int .i64 0]⟩, 3, [some (.fn 3 (symF nm ns hs) n 24), some (.fn 3 (gD nm ns hs n s v) n 24)]) := by kernel_rfl
end
def pnS (s : ByteArray) (v h : Int) : St := Ly.start Try.f10 [.slice none 0 0, .string s, .int .u16 v, .int .i64 h] (mkH [])
def pnG : Bool := true && (true && (true && propB (isSym (lstG 3 0 []) 0)))
def erN (k : Int) : Value := .tuple ⟨[.slice none 0 0, .int .i64 k]⟩
section
variable (s : ByteArray) (v h : Int)
theorem pnA : endsAt [] (Ly.run ctxP 300 [(1, false)] (pnS s v h)) = some ([((!nameB s) == false, false)], erN 2, 0, []) := by kernel_rfl
theorem pnB : endsAt [] (Ly.run ctxP 300 [(1, true), (1, true), (3, true)] (pnS s v h)) = some ([((!nameB s) == false, true), (Nat.ble s.size 1000000, true), (!strEq (upS s) s, true)], erN 2, 0, []) := by kernel_rfl
theorem pnC : endsAt [] (Ly.run ctxP 300 [(1, true), (1, true), (3, false), (0, false)] (pnS s v h)) = some ([((!nameB s) == false, true), (Nat.ble s.size 1000000, true), (!strEq (upS s) s, false), (decide (h < 1) == false, false)], erN 1, 0, []) := by kernel_rfl
theorem pnD : endsAt [] (Ly.run ctxP 300 [(1, true), (1, true), (3, false), (0, true), (2, true)] (pnS s v h)) = some ([((!nameB s) == false, true), (Nat.ble s.size 1000000, true), (!strEq (upS s) s, false), (decide (h < 1) == false, true), (decide (3 < h), true)], erN 1, 0, []) := by kernel_rfl
theorem pnE : endsAt [3] (Ly.run ctxP 300 puP (pnS s v h)) = some (puT s h ++ [(pnG, true)], .tuple ⟨[sl 3 1, .int .i64 0]⟩, 4, [some (.row (puL s v h) 24 3)]) := by kernel_rfl
end
end Go.Proofs.Ytobdoejkioenhaa
namespace Go.Proofs.Ytobdoejkioenhaa
open Go Go.Ly Go.RowKit
def insN (nm : Nat → ByteArray) (n : Nat) (s : ByteArray) : Nat := ((List.range n).find? fun e => !lessB (nm e) s).getD n
theorem insN_is {nm : Nat → ByteArray} {n k : Nat} {s : ByteArray} (hk : k ≤ n) (hlo : ∀ e, e < k → lessB (nm e) s = true) (hhi : k < n → lessB (nm k) s = false) : insN nm n s = k := by
  unfold insN
  rcases Nat.lt_or_ge k n with h | h
  · rw [show (List.range n).find? (fun e => !lessB (nm e) s) = some k from by
      rw [List.find?_range_eq_some]
      exact ⟨by rw [hhi h]; rfl, List.mem_range.2 h, fun j hj => by rw [hlo j hj]; rfl⟩]
    rfl
  · have : k = n := by omega
    subst this
    rw [show (List.range k).find? (fun e => !lessB (nm e) s) = none from List.find?_eq_none.2 fun e he => by rw [hlo e (List.mem_range.1 he)]; simp]
    rfl
theorem j3 {j : Nat} (h : j < 3) : j = 0 ∨ j = 1 ∨ j = 2 := by omega
section
variable {t : Tb} {s : ByteArray} {v h : Int} {k : Nat}
theorem row_ins (hk : KeyG t.has t.sz) (hs : t.has s = false) (hkn : k ≤ t.sz) (hlo : ∀ e, e < k → lessB (keyAt t.has e) s = true) (hhi : k < t.sz → lessB (keyAt t.has k) s = false) (e j : Nat) (he : e < t.sz + 1) (hj : j < 3) :
    rowT (putU t s v h) e j = if e < k then rowT t e j else if e = k then lstG 3 1 (puL s v h) 0 j else rowT t (e - 1) j := by
  have ek : keyAt (putU t s v h).has e = _ := ins_keys hk hs hkn hlo hhi e
  have hne : ∀ i, i < t.sz → keyAt t.has i ≠ s := fun i hi e => by have := hk.at hi; rw [e, hs] at this; cases this
  have old : ∀ i, i < t.sz → keyAt (putU t s v h).has e = keyAt t.has i → rowT (putU t s v h) e j = rowT t i j := fun i hi e2 => by
    have h2 := hne i hi
    rcases j3 hj with rfl | rfl | rfl
    · show Value.string (keyAt (putU t s v h).has e) = .string (keyAt t.has i); rw [e2]
    · show Value.int .u16 (bif strEq (keyAt (putU t s v h).has e) s then v else t.n (keyAt (putU t s v h).has e)) = .int .u16 (t.n (keyAt t.has i))
      rw [e2, strEq_ne h2]; rfl
    · show Value.int .i64 (bif strEq (keyAt (putU t s v h).has e) s then h else t.h (keyAt (putU t s v h).has e)) = .int .i64 (t.h (keyAt t.has i))
      rw [e2, strEq_ne h2]; rfl
  by_cases h1 : e < k
  · rw [if_pos h1] at ek ⊢
    exact old e (by omega) ek
  · rw [if_neg h1] at ek ⊢
    by_cases h2 : e = k
    · rw [if_pos h2] at ek ⊢
      rcases j3 hj with rfl | rfl | rfl
      · show Value.string (keyAt (putU t s v h).has e) = .string s; rw [ek]
      · show Value.int .u16 (bif strEq (keyAt (putU t s v h).has e) s then v else t.n (keyAt (putU t s v h).has e)) = .int .u16 v
        rw [ek, strEq_self]; rfl
      · show Value.int .i64 (bif strEq (keyAt (putU t s v h).has e) s then h else t.h (keyAt (putU t s v h).has e)) = .int .i64 h
        rw [ek, strEq_self]; rfl
    · rw [if_neg h2] at ek ⊢
      exact old (e - 1) (by omega) ek
theorem gX_eq (hk : KeyG t.has t.sz) (hs : t.has s = false) (hhi : 0 < t.sz → lessB (keyAt t.has 0) s = false) (e j : Nat) (he : e < t.sz + 1) (hj : j < 3) :
    gX (fun e => keyAt t.has e) (fun e => t.n (keyAt t.has e)) (fun e => t.h (keyAt t.has e)) s v h 0 e j = rowT (putU t s v h) e j := by
  rw [row_ins (k := 0) hk hs (Nat.zero_le _) (fun e h => by omega) hhi e j he hj]
  unfold gX joinG
  rw [vif_eq, if_neg (by omega)]
  by_cases h0 : e = 0
  · subst h0; rfl
  · rw [if_neg h0, show Nat.blt e 1 = false from Bool.eq_false_iff.2 fun h => by rw [Nat.blt_eq] at h; omega]
    simp only [cond_false]
    rw [show 0 + 0 + (e - 1) = e - 1 by omega]; rfl
theorem gY_eq (hk : KeyG t.has t.sz) (hs : t.has s = false) (hkn : k ≤ t.sz) (hlo : ∀ e, e < k → lessB (keyAt t.has e) s = true) (hhi : k < t.sz → lessB (keyAt t.has k) s = false) (e j : Nat) (he : e < t.sz + 1) (hj : j < 3) :
    gY (fun e => keyAt t.has e) (fun e => t.n (keyAt t.has e)) (fun e => t.h (keyAt t.has e)) s v h k e j = rowT (putU t s v h) e j := by
  rw [row_ins hk hs hkn hlo hhi e j he hj]
  unfold gY joinG
  simp only [vif_eq]
  by_cases h1 : e < k
  · rw [if_pos h1, show Nat.blt e (0 + k + 1) = true by rw [Nat.blt_eq]; omega, show Nat.blt (0 + e) (0 + k) = true by rw [Nat.blt_eq]; omega]
    simp only [cond_true]
    rw [show 0 + (0 + (0 + e)) = e by omega]; rfl
  · rw [if_neg h1]
    by_cases h2 : e = k
    · rw [if_pos h2, show Nat.blt e (0 + k + 1) = true by rw [Nat.blt_eq]; omega, show Nat.blt (0 + e) (0 + k) = false from Bool.eq_false_iff.2 fun h => by rw [Nat.blt_eq] at h; omega]; rfl
    · rw [if_neg h2, show Nat.blt e (0 + k + 1) = false from Bool.eq_false_iff.2 fun h => by rw [Nat.blt_eq] at h; omega]
      simp only [cond_false]
      rw [show 0 + k + (e - (0 + k + 1)) = e - 1 by omega]; rfl
theorem puF_eq {nm : Nat → ByteArray} {n : Nat} : puF nm n s = findV nm n s := by
  unfold puF
  rw [show (fun e => nm (0 + e)) = nm from funext fun e => by rw [Nat.zero_add]]
theorem find_yes (hk : KeyG t.has t.sz) (hs : t.has s = true) : ∃ i, i < t.sz ∧ keyAt t.has i = s ∧ puF (fun e => keyAt t.has e) t.sz s = (i : Int) := by
  obtain ⟨i, h1, h2, h3⟩ := (hk.idx s).1 hs
  refine ⟨i, h1, h2, ?_⟩
  rw [puF_eq]; unfold findV
  rw [show idxOf (fun e => keyAt t.has e) t.sz s = some i from h3]
theorem find_no (hk : KeyG t.has t.sz) (hs : t.has s = false) : puF (fun e => keyAt t.has e) t.sz s = -1 := by
  rw [puF_eq]; unfold findV
  rw [show idxOf (fun e => keyAt t.has e) t.sz s = none from (hk.idx s).2 hs]
theorem gD_eq (hk : KeyG t.has t.sz) {i : Nat} (hi : i < t.sz) (hs : keyAt t.has i = s) (hF : puF (fun e => keyAt t.has e) t.sz s = (i : Int)) (h3 : t.h s = 3) (e j : Nat) (he : e < t.sz) (hj : j < 3) :
    gD (fun e => keyAt t.has e) (fun e => t.n (keyAt t.has e)) (fun e => t.h (keyAt t.has e)) t.sz s v e j = rowT (putU t s v 3) e j := by
  have hh : t.has s = true := by rw [← hs]; exact hk.at hi
  have eh : (putU t s v 3).has = t.has := upS_has hh
  unfold gD updG
  rw [hF, show 0 + (i : Int).toNat = i by omega]
  rcases j3 hj with rfl | rfl | rfl
  · show Value.string (keyAt t.has (0 + e)) = .string (keyAt (putU t s v 3).has e)
    rw [eh, Nat.zero_add]
  · show vif (Nat.beq e i) (.int .u16 v) (.int .u16 (t.n (keyAt t.has (0 + e)))) = .int .u16 (bif strEq (keyAt (putU t s v 3).has e) s then v else t.n (keyAt (putU t s v 3).has e))
    rw [vif_eq, eh, Nat.zero_add]
    by_cases hei : e = i
    · subst hei; rw [hs, strEq_self, Nat.beq_refl]; rfl
    · rw [strEq_ne (fun e2 => hei (hk.inj he hi (e2.trans hs.symm))), show Nat.beq e i = false from Bool.eq_false_iff.2 fun e2 => hei (Nat.eq_of_beq_eq_true e2)]; rfl
  · show Value.int .i64 (t.h (keyAt t.has (0 + e))) = .int .i64 (bif strEq (keyAt (putU t s v 3).has e) s then 3 else t.h (keyAt (putU t s v 3).has e))
    rw [eh, Nat.zero_add]
    by_cases hei : keyAt t.has e = s
    · rw [hei, strEq_self, h3]; rfl
    · rw [strEq_ne hei]; rfl
end
theorem MWp.rowAs {P : Program} {S : St} {v0 : Value} {nx b n n' : Nat} {G G' : Nat → Nat → Value} {t : Option LO} (h : MWp P S (fun u K => u = v0 ∧ K.next = nx ∧ [0, b].map K.get = [t, some (.fn 3 G n 24)] ∧ K.lock = 0)) (hn : n = n') (h0 : b ≠ 0) (hb : b < 100) (hG : ∀ e j, e < n → j < 3 → G e j = G' e j) :
    MWp P S (fun u K => u = v0 ∧ K.next = nx ∧ K.get 0 = t ∧ K.get b = some (.fn 3 G' n' 24) ∧ K.lock = 0) := by
  subst hn
  refine Go.Ly.MWp.weakQ h ?_
  rintro u K ⟨rfl, h1, h2, h3⟩
  simp only [List.map_cons, List.map_nil, List.cons.injEq, and_true] at h2
  have hget : ∀ i, Heap.get { K with m := K.m.set b (some (.fn 3 G' n 24)) } i = if i = b then some (.fn 3 G' n 24) else K.get i := fun i => Tr.get_set _ _ _ (by unfold big; omega) i
  refine ⟨{ K with m := K.m.set b (some (.fn 3 G' n 24)) }, ⟨rfl, h1, by rw [hget, if_neg (fun e => h0 e.symm)]; exact h2.1, by rw [hget, if_pos rfl], h3⟩, rfl, rfl, fun i o ho => ?_⟩
  rw [hget] at ho
  by_cases e : i = b
  · subst e
    rw [if_pos rfl] at ho
    obtain rfl := Option.some.inj ho
    exact ⟨_, h2.2, (.inr (.inr ⟨3, G, G', n, 24, rfl, rfl, hG⟩))⟩
  · rw [if_neg e] at ho
    exact ⟨o, ho, OW.refl o⟩
def puNb (t : Tb) (s : ByteArray) : Nat := bif t.has s then 2 else bif Nat.beq (insN (fun e => keyAt t.has e) t.sz s) 0 then 4 else 5
def PuQ (t : Tb) (s : ByteArray) (v h : Int) (b : Nat) : Value → Heap → Prop := fun u K => u = .tuple ⟨[sls b (putU t s v h).sz, .int .i64 0]⟩ ∧ K.next = b + 1 ∧ K.get 0 = some (.fn 3 (rowT t) t.sz 24) ∧ K.get b = some (.fn 3 (rowT (putU t s v h)) (putU t s v h).sz 24) ∧ K.lock = 0
def PuE (t : Tb) (k : Int) : Value → Heap → Prop := fun u K => u = erE t.sz k ∧ K.next = 1 ∧ K.get 0 = some (.fn 3 (rowT t) t.sz 24) ∧ K.lock = 0
section
variable {t : Tb} {s : ByteArray} {v h : Int}
theorem puG_ok (hok : keyOk t.has t.sz) : puG (fun e => keyAt t.has e) (fun e => t.n (keyAt t.has e)) (fun e => t.h (keyAt t.has e)) t.sz = true := by
  unfold puG
  rw [propB_iff.2 (isSym_F hok.1), Nat.zero_add, Nat.ble_eq_true_of_le (Nat.le_refl _)]; rfl
theorem puT_ok (hs : s.size ≤ 1000000) (h1 : nameB s = true) (h2 : strEq (upS s) s = true) (h3 : ¬ h < 1) (h4 : ¬ 3 < h) : trusted (puT s h) :=
  ⟨by rw [h1]; rfl, Nat.ble_eq_true_of_le hs, by rw [h2]; rfl, by rw [decide_eq_false h3]; rfl, decide_eq_false h4, trivial⟩
theorem st0_ok {nm : Nat → ByteArray} {ns hs : Nat → Int} {n : Nat} : st0 nm ns hs n = true := propB_iff.2 rfl
theorem st1_ok : st1 s v h = true := propB_iff.2 rfl
theorem puXs_ok {n k : Nat} (h : k ≤ n) : puXs n k = true := by unfold puXs; rw [decide_eq_true (by omega)]; rfl
theorem puX0_ok {n k : Nat} (h : k ≤ n) (h2 : n ≤ 1000000) : puX0 n k = true := by
  unfold puX0; rw [Nat.zero_add, Nat.ble_eq_true_of_le h, Nat.ble_eq_true_of_le (show k ≤ 4294967296 by omega)]; rfl
theorem puX3_ok {n k : Nat} (h : k ≤ n) : puX3 n k = true := by
  unfold puX3; rw [decide_eq_true (show (k : Int) ≤ (n : Int) by omega), decide_eq_true (show (n : Int) ≤ (n : Int) by omega)]; rfl
theorem tX_ok {n : Nat} (h2 : n ≤ 1000000) : trusted (tX n 0) := by
  refine ⟨puXs_ok (Nat.zero_le _), puX0_ok (Nat.zero_le _) h2, rfl, rfl, puX3_ok (Nat.zero_le _), ?_, Nat.ble_eq_true_of_le (by omega), trivial⟩
  show (Nat.ble (0 + 0 + (n - 0)) n && (true && (true && (true && Nat.ble (1 + (n - 0)) 4294967296)))) = true
  rw [Nat.ble_eq_true_of_le (show 0 + 0 + (n - 0) ≤ n by omega), Nat.ble_eq_true_of_le (show 1 + (n - 0) ≤ 4294967296 by omega)]; rfl
theorem tY_ok {nm : Nat → ByteArray} {ns hs : Nat → Int} {n k : Nat} (h : k ≤ n) (h0 : k ≠ 0) (h2 : n ≤ 1000000) {h' : Int} : trusted (tY nm ns hs n s v h' k) := by
  have a1 := puXs_ok h
  have a2 := puX0_ok h h2
  have a3 : puX1 k = false := Bool.eq_false_iff.2 fun e => by have := Nat.le_of_ble_eq_true (show Nat.ble (0 + k) 0 = true from e); omega
  have a4 : puX6 k = true := Nat.ble_eq_true_of_le (by omega)
  have a5 : puY1 k = true := by
    unfold puY1
    rw [Nat.zero_add, Nat.zero_add, Nat.ble_eq_true_of_le (Nat.le_refl k), Nat.beq_refl k, Nat.ble_eq_true_of_le (show 1 ≤ k by omega), Nat.ble_eq_true_of_le (show k + 1 ≤ 4294967296 by omega)]; rfl
  have a6 := puX3_ok h
  have a7 : puY2 n k = true := by
    unfold puY2
    rw [Nat.zero_add, Nat.zero_add, Nat.ble_eq_true_of_le (show k + (n - k) ≤ n by omega), Nat.ble_eq_true_of_le (Nat.le_refl (k + 1)), Nat.beq_refl (k + 1), Nat.ble_eq_true_of_le (show 1 ≤ k + 1 by omega), Nat.ble_eq_true_of_le (show k + 1 + (n - k) ≤ 4294967296 by omega)]; rfl
  have a8 : puY3 n k = true := Nat.ble_eq_true_of_le (by omega)
  exact ⟨a1, a2, a3, a4, a5, a6, a7, a8, a1, a2, a3, a4, st0_ok, a5, st1_ok, a6, a7, a8, st0_ok, trivial⟩
theorem plain_pu {G : Nat → Nat → Value} {n : Nat} (hG : ∀ e j, noBlk (G e j)) : ∀ o ∈ puO G n, ∀ x, o = some x → plainO x := by
  intro o ho x hx
  simp only [puO, List.mem_cons, List.not_mem_nil, or_false] at ho
  subst ho
  obtain rfl := Option.some.inj hx
  exact hG
theorem er_end {S : St} {p : Path} {te : List (Bool × Bool)} {k : Int} (he : endsAt [0] (Ly.run ctxP 300 p S) = some (te, erE t.sz k, 1, [some (.fn 3 (rowT t) t.sz 24)])) (ht : trusted te) : MWp Try.prog S (PuE t k) := by
  refine (MWp.ends ctxP_ok 300 p he ht).mono ?_
  rintro u K ⟨rfl, h1, h2, h3⟩
  simp only [List.map_cons, List.map_nil, List.cons.injEq, and_true] at h2
  exact ⟨rfl, h1, h2, h3⟩
theorem putK_has (hs : t.has s = true) (h1 : nameB s = true) (h2 : strEq (upS s) s = true) (h3 : ¬ h < 1) (h4 : ¬ 3 < h) : putK t s h = bif (h != 3) || (t.h s != 3) then 4 else 0 := by
  unfold putK; rw [h1, h2, decide_eq_false h3, decide_eq_false h4, hs]; rfl
theorem putK_not (hs : t.has s = false) (h1 : nameB s = true) (h2 : strEq (upS s) s = true) (h3 : ¬ h < 1) (h4 : ¬ 3 < h) : putK t s h = bif decide (2048 ≤ (t.sz : Int)) then 11 else 0 := by
  unfold putK; rw [h1, h2, decide_eq_false h3, decide_eq_false h4, hs]; rfl
theorem pu_err (hk : KeyG t.has t.sz) (hok : keyOk t.has t.sz) (hs : s.size ≤ 1000000) (h0 : putK t s h ≠ 0) : MWp Try.prog (puS (rowT t) t.sz s v h) (PuE t (putK t s h)) := by
  cases hb : nameB s with
  | false =>
    rw [show putK t s h = 2 by unfold putK; rw [hb]; rfl]
    exact er_end (puA _ _ _ _ s v h) ⟨by rw [hb]; rfl, trivial⟩
  | true =>
  cases hu : strEq (upS s) s with
  | false =>
    rw [show putK t s h = 2 by unfold putK; rw [hb, hu]; rfl]
    exact er_end (puB _ _ _ _ s v h) ⟨by rw [hb]; rfl, Nat.ble_eq_true_of_le hs, by rw [hu]; rfl, trivial⟩
  | true =>
  by_cases g1 : h < 1
  · rw [show putK t s h = 1 by unfold putK; rw [hb, hu, decide_eq_true g1]; rfl]
    exact er_end (puC _ _ _ _ s v h) ⟨by rw [hb]; rfl, Nat.ble_eq_true_of_le hs, by rw [hu]; rfl, by rw [decide_eq_true g1]; rfl, trivial⟩
  by_cases g3 : 3 < h
  · rw [show putK t s h = 1 by unfold putK; rw [hb, hu, decide_eq_true g3, decide_eq_false g1]; rfl]
    exact er_end (puC3 _ _ _ _ s v h) ⟨by rw [hb]; rfl, Nat.ble_eq_true_of_le hs, by rw [hu]; rfl, by rw [decide_eq_false g1]; rfl, decide_eq_true g3, trivial⟩
  have hT := puT_ok (h := h) hs hb hu g1 g3
  have hG := puG_ok hok
  cases hh : t.has s with
  | true =>
    rw [putK_has hh hb hu g1 g3] at h0 ⊢
    obtain ⟨i, hi, hi2, hF⟩ := find_yes hk hh
    have hP : trusted (puP3 (fun e => keyAt t.has e) (fun e => t.n (keyAt t.has e)) (fun e => t.h (keyAt t.has e)) t.sz s h) := tr_app2 hT ⟨hG, by rw [hF]; exact decide_eq_true (by omega), trivial⟩
    cases h3 : (h != 3) with
    | true =>
      refine er_end (puE _ _ _ _ s v h) (tr_snoc hP ⟨by rw [h3]; rfl, trivial⟩)
    | false =>
      cases h4 : (t.h s != 3) with
      | false => rw [h3, h4] at h0; exact absurd rfl h0
      | true =>
        refine er_end (puE2 _ _ _ _ s v h) (tr_snoc (tr_snoc (tr_snoc hP ⟨by rw [h3]; rfl, trivial⟩) ?_) ⟨?_, trivial⟩)
        · rw [hF]; exact ⟨by rw [decide_eq_true (show (0 : Int) ≤ (i : Int) by omega), decide_eq_true (show (i : Int) < (t.sz : Int) by omega)]; rfl, by rw [Nat.blt_eq]; omega, trivial⟩
        · rw [hF, show 0 + (i : Int).toNat = i by omega, hi2]; exact h4
  | false =>
    rw [putK_not hh hb hu g1 g3] at h0 ⊢
    by_cases h5 : (2048 : Int) ≤ (t.sz : Int)
    · rw [decide_eq_true h5]
      exact er_end (puL11 _ _ _ _ s v h) (tr_app2 hT ⟨hG, by rw [find_no hk hh]; rfl, decide_eq_true h5, trivial⟩)
    · rw [decide_eq_false h5] at h0; exact absurd rfl h0
theorem pu_exit (hk : KeyG t.has t.sz) (hok : keyOk t.has t.sz) (hss : s.size ≤ 1000000) (hs : t.has s = false) {k : Nat} (hkn : k ≤ t.sz) (hlo : ∀ e, e < k → lessB (keyAt t.has e) s = true) (hhi : k < t.sz → lessB (keyAt t.has k) s = false) :
    MWp Try.prog (puH (fun e => keyAt t.has e) (fun e => t.n (keyAt t.has e)) (fun e => t.h (keyAt t.has e)) t.sz s v h (k : Int)) (PuQ t s v h (puNb t s)) := by
  have hb : puNb t s = bif Nat.beq k 0 then 4 else 5 := by
    unfold puNb; rw [hs, insN_is (nm := fun e => keyAt t.has e) hkn hlo hhi]; rfl
  have hsz : (putU t s v h).sz = t.sz + 1 := by show (bif t.has s then _ else _) = _; rw [hs]; rfl
  rw [hb]
  have hR : k < t.sz → trusted (puR (fun e => keyAt t.has e) t.sz s (k : Int) false) := fun h => by
    have hz : 0 + (k : Int).toNat = k := by omega
    refine ⟨by rw [decide_eq_true (show (k : Int) < (t.sz : Int) by omega)]; rfl, by rw [decide_eq_true (show (0 : Int) ≤ (k : Int) by omega), decide_eq_true (show (k : Int) < (t.sz : Int) by omega)]; rfl, by rw [hz, Nat.blt_eq]; exact h, ?_, by rw [hz]; exact hhi h, trivial⟩
    rw [hz, Nat.ble_eq_true_of_le (hok.2 _ (hk.at h)), Nat.ble_eq_true_of_le hss]; rfl
  have hN : ¬ k < t.sz → (decide ((k : Int) < (t.sz : Int)) == true) = false := fun h => by rw [decide_eq_false (by omega)]; rfl
  by_cases h0 : k = 0
  · subst h0
    rw [show Nat.beq 0 0 = true from rfl, cond_true]
    unfold PuQ
    rw [hsz]
    have e1 : t.sz + 1 = 1 + (t.sz - 0) := by omega
    rw [e1]
    by_cases hl : 0 < t.sz
    · exact MWp.rowAs (MWp.ends ctxP_ok 300 _ (puXb _ _ _ _ s v h 0) (tr_app2 (hR hl) (tX_ok hok.1))) rfl (by omega) (by omega) (fun e j he hj => gX_eq hk hs hhi e j (by omega) hj)
    · exact MWp.rowAs (MWp.ends ctxP_ok 300 _ (puXa _ _ _ _ s v h 0) ⟨hN hl, tX_ok hok.1⟩) rfl (by omega) (by omega) (fun e j he hj => gX_eq hk hs hhi e j (by omega) hj)
  · rw [show Nat.beq k 0 = false from Bool.eq_false_iff.2 fun e => h0 (Nat.eq_of_beq_eq_true e), cond_false]
    unfold PuQ
    rw [hsz]
    have e1 : t.sz + 1 = 0 + k + 1 + (t.sz - k) := by omega
    rw [e1]
    by_cases hl : k < t.sz
    · exact MWp.rowAs (MWp.ends ctxP_ok 300 _ (puYb _ _ _ _ s v h k) (tr_app2 (hR hl) (tY_ok hkn h0 hok.1))) rfl (by omega) (by omega) (fun e j he hj => gY_eq hk hs hkn hlo hhi e j (by omega) hj)
    · exact MWp.rowAs (MWp.ends ctxP_ok 300 _ (puYa _ _ _ _ s v h k) ⟨hN hl, tY_ok hkn h0 hok.1⟩) rfl (by omega) (by omega) (fun e j he hj => gY_eq hk hs hkn hlo hhi e j (by omega) hj)
theorem pu_loop (hk : KeyG t.has t.sz) (hok : keyOk t.has t.sz) (hss : s.size ≤ 1000000) (hs : t.has s = false) : ∀ (d k : Nat), k ≤ t.sz → t.sz - k = d → (∀ e, e < k → lessB (keyAt t.has e) s = true) →
    MWp Try.prog (puH (fun e => keyAt t.has e) (fun e => t.n (keyAt t.has e)) (fun e => t.h (keyAt t.has e)) t.sz s v h (k : Int)) (PuQ t s v h (puNb t s))
  | 0, k, h1, hd, hlo => pu_exit hk hok hss hs h1 hlo (fun h => by omega)
  | d + 1, k, h1, hd, hlo => by
    have hkn : k < t.sz := by omega
    cases hl : lessB (keyAt t.has k) s with
    | false => exact pu_exit hk hok hss hs h1 hlo (fun _ => hl)
    | true =>
      have hz : 0 + (k : Int).toNat = k := by omega
      have hw : IntKind.i64.wrap ((k : Int) + 1) = ((k + 1 : Nat) : Int) := by rw [IntKind.wrap_i64]; have := hok.1; omega
      refine MWp.head ctxP_ok _ _ _ _ (pu1 _ _ _ _ s v h (k : Int)) ⟨by rw [decide_eq_true (show (k : Int) < (t.sz : Int) by omega)]; rfl, by rw [decide_eq_true (show (0 : Int) ≤ (k : Int) by omega), decide_eq_true (show (k : Int) < (t.sz : Int) by omega)]; rfl, by rw [hz, Nat.blt_eq]; exact hkn, ?_, by rw [hz]; exact hl, trivial⟩ (plain_pu (noBlk_symF _ _ _)) ?_
      · rw [hz, Nat.ble_eq_true_of_le (hok.2 _ (hk.at hkn)), Nat.ble_eq_true_of_le hss]; rfl
      · rw [hw]
        refine pu_loop hk hok hss hs d (k + 1) (by omega) (by omega) (fun e he => ?_)
        by_cases hek : e = k
        · rw [hek]; exact hl
        · exact hlo e (by omega)
theorem pu_ok (hk : KeyG t.has t.sz) (hok : keyOk t.has t.sz) (hss : s.size ≤ 1000000) (h0 : putK t s h = 0) : MWp Try.prog (puS (rowT t) t.sz s v h) (PuQ t s v h (puNb t s)) := by
  have hb : nameB s = true := by
    cases hb : nameB s with
    | true => rfl
    | false => unfold putK at h0; rw [hb] at h0; cases h0
  have hu : strEq (upS s) s = true := by
    cases hu : strEq (upS s) s with
    | true => rfl
    | false => unfold putK at h0; rw [hb, hu] at h0; cases h0
  have g1 : ¬ h < 1 := fun g1 => by unfold putK at h0; rw [hb, hu, decide_eq_true g1] at h0; cases h0
  have g3 : ¬ 3 < h := fun g3 => by unfold putK at h0; rw [hb, hu, decide_eq_true g3, decide_eq_false g1] at h0; cases h0
  have hT := puT_ok (h := h) hss hb hu g1 g3
  have hG := puG_ok hok
  cases hh : t.has s with
  | true =>
    rw [putK_has hh hb hu g1 g3] at h0
    obtain ⟨i, hi, hi2, hF⟩ := find_yes hk hh
    have h3 : (h != 3) = false := by
      cases h3 : (h != 3) with
      | false => rfl
      | true => rw [h3] at h0; cases h0
    have h4 : (t.h s != 3) = false := by
      cases h4 : (t.h s != 3) with
      | false => rfl
      | true => rw [h3, h4] at h0; cases h0
    have h3' : h = 3 := by simpa using h3
    have h4' : t.h s = 3 := by simpa using h4
    have hP : trusted (puP3 (fun e => keyAt t.has e) (fun e => t.n (keyAt t.has e)) (fun e => t.h (keyAt t.has e)) t.sz s h) := tr_app2 hT ⟨hG, by rw [hF]; exact decide_eq_true (by omega), trivial⟩
    have hsz : (putU t s v h).sz = t.sz := by show (bif t.has s then _ else _) = _; rw [hh]; rfl
    unfold puNb PuQ
    rw [hh, cond_true, hsz]
    have key := MWp.ends ctxP_ok 300 _ (puDd (fun e => keyAt t.has e) (fun e => t.n (keyAt t.has e)) (fun e => t.h (keyAt t.has e)) t.sz s v h) (tr_app2 hP ⟨by rw [h3]; rfl, by
      unfold tD puD1
      rw [hF]
      have b1 : (decide (0 ≤ (i : Int)) && decide ((i : Int) < (t.sz : Int))) = true := by rw [decide_eq_true (show (0 : Int) ≤ (i : Int) by omega), decide_eq_true (show (i : Int) < (t.sz : Int) by omega)]; rfl
      have b2 : Nat.blt (0 + (i : Int).toNat) t.sz = true := by rw [Nat.blt_eq]; omega
      refine ⟨b1, b2, by rw [show 0 + (i : Int).toNat = i by omega]; show (t.h (keyAt t.has i) != 3) = false; rw [hi2]; exact h4, ?_, Bool.eq_false_iff.2 fun e => by have := Nat.le_of_ble_eq_true e; omega, Nat.ble_eq_true_of_le (by omega), ?_, b2, trivial⟩
      · rw [Nat.zero_add, Nat.ble_eq_true_of_le (Nat.le_refl _), Nat.ble_eq_true_of_le (show t.sz ≤ 4294967296 by have := hok.1; omega)]; rfl
      · rw [Nat.zero_add]; exact b1⟩)
    rw [Nat.zero_add] at key
    exact MWp.rowAs key rfl (by omega) (by omega) (fun e j he hj => by rw [h3']; exact gD_eq hk hi hi2 hF h4' e j he hj)
  | false =>
    rw [putK_not hh hb hu g1 g3] at h0
    have h5 : ¬ (2048 : Int) ≤ (t.sz : Int) := fun h5 => by rw [decide_eq_true h5] at h0; cases h0
    refine MWp.head ctxP_ok _ _ _ _ (pu0 (fun e => keyAt t.has e) (fun e => t.n (keyAt t.has e)) (fun e => t.h (keyAt t.has e)) t.sz s v h) (tr_app2 hT ⟨hG, by rw [find_no hk hh]; rfl, decide_eq_false h5, trivial⟩) (plain_pu (noBlk_symF _ _ _)) ?_
    exact pu_loop hk hok hss hh _ 0 (Nat.zero_le _) rfl (fun e he => by omega)
end
end Go.Proofs.Ytobdoejkioenhaa
end
