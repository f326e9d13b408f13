/- Part 5 of the texts that the law needs, laid together. By program (pack.py). -/
import Derived.Test.YtobdoejkioenhaaPca
import Derived.Test.YtobdoejkioenhaaPcd
import Derived.KernelRfl
import Derived.StringKeys
import Derived.Sort.Walk0
set_option linter.unusedVariables false
set_option linter.unusedSimpArgs false
noncomputable section
namespace Go.Proofs.Ytobdoejkioenhaa
open Go Go.Ly Go.RowKit
def urD : St := Ly.start Try.f24 [] H0
def urK : List KI := ((Ly.run ctxB 15 [] (Ly.start Try.f24 [.string ⟨⟨[]⟩⟩] H0)).st urD).top.k
def urV (s : ByteArray) (w : Value) (i : Int) : List Value := slots 29 [(0, .string s), (3, w), (4, .int .i64 i)]
def urT (k : Nat) : Bool × Bool := (true && (Nat.ble (0 + k) k && ((Nat.beq 1 1 && (Nat.beq 5 5 && (Nat.beq k k && true))) && (Nat.ble 1 k && Nat.ble (k + 1) 4294967296))), true)
theorem ur0 (s : ByteArray) : headAt [0, 3, 4] [] urD (Ly.run ctxB 15 [] (Ly.start Try.f24 [.string s] H0)) = (true, [], true, (Try.f24, urK, none, 0), urV s (.slice none 0 0) 0, []) := by kernel_rfl
theorem urU0 (s : ByteArray) (i : Int) : headAt [0, 3, 4] [1] urD (Ly.run ctxB 49 [(0, true), (0, true), (0, true), (2, true)] (mkSt Try.f24 urK none 0 (urV s (.slice none 0 0) i) [])) = (true, [(decide (i < (s.size : Int)), true), (decide (0 ≤ i) && decide (i < (s.size : Int)), true), (decide (97 ≤ byteA s i.toNat) == true, true), (decide (byteA s i.toNat ≤ 122), true)], true, (Try.f24, urK, none, 0), urV s (sl 0 1) (IntKind.i64.wrap (i + 1)), [some (.fn 1 (lstG 1 1 [.int .u8 (IntKind.u8.wrap (byteA s i.toNat - 32))]) 1 5)]) := by kernel_rfl
theorem urV0 (s : ByteArray) (i : Int) : headAt [0, 3, 4] [1] urD (Ly.run ctxB 45 [(0, true), (0, true), (0, true), (2, false)] (mkSt Try.f24 urK none 0 (urV s (.slice none 0 0) i) [])) = (true, [(decide (i < (s.size : Int)), true), (decide (0 ≤ i) && decide (i < (s.size : Int)), true), (decide (97 ≤ byteA s i.toNat) == true, true), (decide (byteA s i.toNat ≤ 122), false)], true, (Try.f24, urK, none, 0), urV s (sl 0 1) (IntKind.i64.wrap (i + 1)), [some (.fn 1 (lstG 1 1 [.int .u8 (byteA s i.toNat)]) 1 5)]) := by kernel_rfl
theorem urW0 (s : ByteArray) (i : Int) : headAt [0, 3, 4] [1] urD (Ly.run ctxB 45 [(0, true), (0, true), (0, false)] (mkSt Try.f24 urK none 0 (urV s (.slice none 0 0) i) [])) = (true, [(decide (i < (s.size : Int)), true), (decide (0 ≤ i) && decide (i < (s.size : Int)), true), (decide (97 ≤ byteA s i.toNat) == true, false)], true, (Try.f24, urK, none, 0), urV s (sl 0 1) (IntKind.i64.wrap (i + 1)), [some (.fn 1 (lstG 1 1 [.int .u8 (byteA s i.toNat)]) 1 5)]) := by kernel_rfl
theorem urU (s : ByteArray) (g : Nat → Nat → Value) (k : Nat) (i : Int) : headAt [0, 3, 4] [2] urD (Ly.run ctxB 49 [(0, true), (0, true), (0, true), (2, true), (0, true)] (mkSt Try.f24 urK none 0 (urV s (sl 0 k) i) [some (.fn 1 g k 5)])) = (true, [(decide (i < (s.size : Int)), true), (decide (0 ≤ i) && decide (i < (s.size : Int)), true), (decide (97 ≤ byteA s i.toNat) == true, true), (decide (byteA s i.toNat ≤ 122), true), urT k], true, (Try.f24, urK, none, 0), urV s (sl 0 (k + 1)) (IntKind.i64.wrap (i + 1)), [some (.fn 1 (joinG k (fun e j => g (0 + e) j) (lstG 1 1 [.int .u8 (IntKind.u8.wrap (byteA s i.toNat - 32))])) (k + 1) 5)]) := by kernel_rfl
theorem urV1 (s : ByteArray) (g : Nat → Nat → Value) (k : Nat) (i : Int) : headAt [0, 3, 4] [2] urD (Ly.run ctxB 45 [(0, true), (0, true), (0, true), (2, false), (0, true)] (mkSt Try.f24 urK none 0 (urV s (sl 0 k) i) [some (.fn 1 g k 5)])) = (true, [(decide (i < (s.size : Int)), true), (decide (0 ≤ i) && decide (i < (s.size : Int)), true), (decide (97 ≤ byteA s i.toNat) == true, true), (decide (byteA s i.toNat ≤ 122), false), urT k], true, (Try.f24, urK, none, 0), urV s (sl 0 (k + 1)) (IntKind.i64.wrap (i + 1)), [some (.fn 1 (joinG k (fun e j => g (0 + e) j) (lstG 1 1 [.int .u8 (byteA s i.toNat)])) (k + 1) 5)]) := by kernel_rfl
theorem urW (s : ByteArray) (g : Nat → Nat → Value) (k : Nat) (i : Int) : headAt [0, 3, 4] [2] urD (Ly.run ctxB 45 [(0, true), (0, true), (0, false), (3, true)] (mkSt Try.f24 urK none 0 (urV s (sl 0 k) i) [some (.fn 1 g k 5)])) = (true, [(decide (i < (s.size : Int)), true), (decide (0 ≤ i) && decide (i < (s.size : Int)), true), (decide (97 ≤ byteA s i.toNat) == true, false), urT k], true, (Try.f24, urK, none, 0), urV s (sl 0 (k + 1)) (IntKind.i64.wrap (i + 1)), [some (.fn 1 (joinG k (fun e j => g (0 + e) j) (lstG 1 1 [.int .u8 (byteA s i.toNat)])) (k + 1) 5)]) := by kernel_rfl
theorem urE0 (s : ByteArray) (i : Int) : (Ly.run ctxB 200 [(0, false)] (mkSt Try.f24 urK none 0 (urV s (.slice none 0 0) i) [])).out? = some ([(decide (i < (s.size : Int)), false)], .string ⟨⟨[]⟩⟩) := by kernel_rfl
theorem urE (s : ByteArray) (g : Nat → Nat → Value) (k : Nat) (i : Int) : (Ly.run ctxB 200 [(0, false), (0, true), (0, true)] (mkSt Try.f24 urK none 0 (urV s (sl 0 k) i) [some (.fn 1 g k 5)])).out? = some ([(decide (i < (s.size : Int)), false), (Nat.ble k k && !(Nat.beq k 0), true), (propB (isU8 g k), true)], .string (Ly.strOf (fun e => numOf (g e 0)) k)) := by kernel_rfl
end Go.Proofs.Ytobdoejkioenhaa
namespace Go.Proofs.Ytobdoejkioenhaa
open Go Go.Ly Go.RowKit
theorem urT_ok {k : Nat} (h : 1 ≤ k) (h2 : k ≤ 1000000) : (urT k).1 = (urT k).2 := by
  show (true && (Nat.ble (0 + k) k && ((Nat.beq 1 1 && (Nat.beq 5 5 && (Nat.beq k k && true))) && (Nat.ble 1 k && Nat.ble (k + 1) 4294967296)))) = true
  have hb : Nat.beq k k = true := Nat.beq_refl k
  rw [Nat.zero_add, Nat.ble_eq_true_of_le (Nat.le_refl k), hb, Nat.ble_eq_true_of_le h, Nat.ble_eq_true_of_le (show k + 1 ≤ 4294967296 by omega)]; rfl
theorem noBlk_lst1 (v : Int) (e j : Nat) : noBlk (lstG 1 1 [.int .u8 v] e j) := by
  cases j with
  | zero => simp [lstG, noBlk, blks]
  | succ j => simp [lstG, noBlk, blks, undef, blksL]
theorem noBlk_join {k : Nat} {g h : Nat → Nat → Value} (hg : ∀ e j, noBlk (g e j)) (hh : ∀ e j, noBlk (h e j)) (e j : Nat) : noBlk (joinG k (fun e j => g (0 + e) j) h e j) := by
  unfold joinG
  rw [vif_eq]
  cases Nat.blt e k with
  | true => exact hg _ _
  | false => exact hh _ _
theorem plain_fn {g : Nat → Nat → Value} {k n : Nat} {t : TypeId} (hg : ∀ e j, noBlk (g e j)) : ∀ o ∈ [some (LO.fn k g n t)], ∀ x, o = some x → plainO x := by
  intro o ho x hx
  simp only [List.mem_cons, List.not_mem_nil, or_false] at ho
  subst ho
  simp only [Option.some.injEq] at hx
  subst hx
  exact hg
theorem join_lt {k : Nat} {g h : Nat → Nat → Value} {e : Nat} (he : e < k) : joinG k (fun e j => g (0 + e) j) h e 0 = g e 0 := by
  unfold joinG
  rw [vif_eq, show Nat.blt e k = true by rw [Nat.blt_eq]; exact he]
  show g (0 + e) 0 = g e 0
  rw [Nat.zero_add]
theorem join_eq {k : Nat} {g : Nat → Nat → Value} {v : Int} : joinG k (fun e j => g (0 + e) j) (lstG 1 1 [.int .u8 v]) k 0 = .int .u8 v := by
  unfold joinG
  rw [vif_eq, show Nat.blt k k = false from Bool.eq_false_iff.2 fun h => by rw [Nat.blt_eq] at h; omega]; rfl
theorem upc_w2 (c : Int) (h : 97 ≤ c) (h2 : c ≤ 122) : IntKind.u8.wrap (c - 32) = upc c := by
  unfold upc
  rw [decide_eq_true h, decide_eq_true h2]
  simp only [Bool.and_self, cond_true]
  rw [IntKind.wrap_u8]; omega
theorem ur_loop (s : ByteArray) (hs : s.size ≤ 1000000) : ∀ (d i : Nat) (g : Nat → Nat → Value), 1 ≤ i → i ≤ s.size → s.size - i = d → (∀ e j, noBlk (g e j)) → (∀ e, e < i → g e 0 = .int .u8 (upc (byteA s e))) →
    MWp Try.prog (mkSt Try.f24 urK none 0 (urV s (sl 0 i) (i : Int)) [some (.fn 1 g i 5)]) (fun v _ => v = .string (upS s))
  | 0, i, g, h0, h1, hd, hp, he => by
    have hi : i = s.size := by omega
    refine MWp.out ctxB_ok 200 _ (urE s g i i) ⟨by simp; omega, by rw [Nat.ble_eq_true_of_le (Nat.le_refl i), show Nat.beq i 0 = false from Bool.eq_false_iff.2 fun e => by have := Nat.eq_of_beq_eq_true e; omega]; rfl, propB_iff.2 fun e h => ⟨_, he e h⟩, trivial⟩ ?_
    intro _
    rw [show Ly.strOf (fun e => numOf (g e 0)) i = upS s by rw [hi]; exact strOf_congr fun e h => by rw [he e (by omega)]; rfl]
  | d + 1, i, g, h0, h1, hd, hp, he => by
    have hi : i < s.size := by omega
    have hi2 : (i : Int) < (s.size : Int) := by omega
    have hw : IntKind.i64.wrap ((i : Int) + 1) = ((i + 1 : Nat) : Int) := by rw [IntKind.wrap_i64]; omega
    have hz : (i : Int).toNat = i := by omega
    have next : ∀ v, v = upc (byteA s i) → MWp Try.prog (mkSt Try.f24 urK none 0 (urV s (sl 0 (i + 1)) (IntKind.i64.wrap ((i : Int) + 1))) [some (.fn 1 (joinG i (fun e j => g (0 + e) j) (lstG 1 1 [.int .u8 v])) (i + 1) 5)]) (fun v _ => v = .string (upS s)) := by
      rintro v rfl
      rw [hw]
      refine ur_loop s hs d (i + 1) _ (by omega) (by omega) (by omega) (noBlk_join hp (noBlk_lst1 _)) (fun e h => ?_)
      by_cases hei : e < i
      · rw [join_lt hei]; exact he e hei
      · have : e = i := by omega
        subst this; exact join_eq
    have hpl : ∀ v, ∀ o ∈ [some (LO.fn 1 (joinG i (fun e j => g (0 + e) j) (lstG 1 1 [.int .u8 v])) (i + 1) 5)], ∀ x, o = some x → plainO x := fun v => plain_fn (noBlk_join hp (noBlk_lst1 _))
    have hT := urT_ok (k := i) h0 (by omega)
    by_cases h97 : 97 ≤ byteA s i
    · by_cases h122 : byteA s i ≤ 122
      · refine MWp.head ctxB_ok _ _ _ _ (urU s g i i) (by rw [hz]; simp only [trusted]; exact ⟨by simpa using hi2, by simpa using hi2, by simpa using h97, by simpa using h122, hT, trivial⟩) (hpl _) (next _ ?_)
        rw [hz]; exact upc_w2 _ h97 h122
      · refine MWp.head ctxB_ok _ _ _ _ (urV1 s g i i) (by rw [hz]; simp only [trusted]; exact ⟨by simpa using hi2, by simpa using hi2, by simpa using h97, by simpa using h122, hT, trivial⟩) (hpl _) (next _ ?_)
        rw [hz]; exact (upc_no (by omega)).symm
    · refine MWp.head ctxB_ok _ _ _ _ (urW s g i i) (by rw [hz]; simp only [trusted]; exact ⟨by simpa using hi2, by simpa using hi2, by simpa using h97, hT, trivial⟩) (hpl _) (next _ ?_)
      rw [hz]; exact (upc_no (by omega)).symm
theorem gUr : ctxB.fn.get 24 = some Try.f24 := by kernel_rfl
theorem ur_calls (s : ByteArray) (hs : s.size ≤ 1000000) : LCalls Try.prog 24 [.string s] H0 (fun u _ => u = .string (upS s)) := by
  refine LCalls_of ctxB_ok gUr (by kernel_rfl) ?_
  refine MWp.head ctxB_ok _ _ _ _ (ur0 s) trivial (by simp) ?_
  by_cases h0 : s.size = 0
  · refine MWp.out ctxB_ok 200 _ (urE0 s 0) (by simp [trusted, h0]) ?_
    intro _; unfold upS Ly.strOf; rw [h0]; rfl
  · have hi2 : (0 : Int) < (s.size : Int) := by omega
    have hw : IntKind.i64.wrap ((0 : Int) + 1) = ((1 : Nat) : Int) := by decide
    have next : ∀ v, v = upc (byteA s 0) → MWp Try.prog (mkSt Try.f24 urK none 0 (urV s (sl 0 1) (IntKind.i64.wrap ((0 : Int) + 1))) [some (.fn 1 (lstG 1 1 [.int .u8 v]) 1 5)]) (fun v _ => v = .string (upS s)) := by
      rintro v rfl
      rw [hw]
      refine ur_loop s hs _ 1 _ (by omega) (by omega) rfl (noBlk_lst1 _) (fun e h => ?_)
      have : e = 0 := by omega
      subst this; rfl
    have hpl : ∀ v, ∀ o ∈ [some (LO.fn 1 (lstG 1 1 [.int .u8 v]) 1 5)], ∀ x, o = some x → plainO x := fun v => plain_fn (noBlk_lst1 _)
    by_cases h97 : 97 ≤ byteA s 0
    · by_cases h122 : byteA s 0 ≤ 122
      · refine MWp.head ctxB_ok _ _ _ _ (urU0 s 0) ⟨by simpa using hi2, by simpa using hi2, by simpa using h97, by simpa using h122, trivial⟩ (hpl _) (next _ ?_)
        exact upc_w2 _ h97 h122
      · refine MWp.head ctxB_ok _ _ _ _ (urV0 s 0) ⟨by simpa using hi2, by simpa using hi2, by simpa using h97, by simpa using h122, trivial⟩ (hpl _) (next _ ?_)
        exact (upc_no (c := byteA s 0) (by omega)).symm
    · refine MWp.head ctxB_ok _ _ _ _ (urW0 s 0) ⟨by simpa using hi2, by simpa using hi2, by simpa using h97, trivial⟩ (hpl _) (next _ ?_)
      exact (upc_no (c := byteA s 0) (by omega)).symm
def upperC2 (l : List Value) : Option (Bool × Value) := match l with
  | [.string s] => some (Nat.ble s.size 1000000, .string (upS s))
  | _ => none
theorem ur_ans : Answers Try.prog 24 upperC2 := by
  intro args g v h hg
  unfold upperC2 at h
  split at h
  · rename_i s
    simp only [Option.some.injEq, Prod.mk.injEq] at h
    obtain ⟨rfl, rfl⟩ := h
    exact ⟨by simp [plain, plainL], by simp [plain], fun w => calls_plain (by simp [VRL, VR]) (fun ρ v' h => by simpa [VR] using h) (ur_calls s (Nat.le_of_ble_eq_true hg)) w⟩
  · cases h
def ctxC : Ctx := (((ctxA.with 21 nameC).with 22 upperC).with 23 nameC).with 24 upperC2
theorem ctxC_ok : ctxC.Ok Try.prog := (((ctxA_ok.with nm_ans).with up_ans).with nr_ans).with ur_ans
end Go.Proofs.Ytobdoejkioenhaa
namespace Go.Proofs.Ytobdoejkioenhaa
open Go Go.Ly Go.RowKit Go.Maps Go.Sort
theorem sorted_any {H : Type} (Bm b nn : Nat) (D0 : DataW H) (R : Value → Option (DataW H × List MemPlace)) (w : World) (hBm : Bm < w.heap.size) (hm : w.cell? ⟨Bm, 0, none⟩ = some (.map (some b))) (hown : w.ownsMap Try.prog 9 R b nn D0)
    (hmax : Maps.size D0 ≤ maxLen) (hbytes : Maps.size D0 * 16 ≤ 140737488355328) :
    CallsIn Fence.wide 5 Try.prog 27 #[.func (.func 35) #[] #[.pointer (some ⟨Bm, 0, none⟩)]] w fun e w' => ∃ (v : Value) (ss : List (List UInt8)), e = .returned v ∧ ss.Perm (strKeys D0) ∧
      w'.ownsRow w.heap.size 9 1 v ss.length ((ss.mergeSort (fun x y => decide (x ≤ y))).map encStr) ∧ (v = .slice none 0 0 ↔ ss = []) ∧ Below w.heap.size w w' := by
  have hseq : SeqGives Fence.wide 2 Try.prog 35 #[.pointer (some ⟨Bm, 0, none⟩)] encStr (fun ss => ss.Perm (strKeys D0)) (Maps.size D0) w :=
    AnyZ.keys_gives (ρ := Try.keys28_ren) { Try.keys28 with } Fence.wide _ trivial rfl (by omega) Bm b nn D0 _ hBm hm hown
  exact AnyZ.sorted_in Try.sorted27 Fence.wide 5 trivial trivial trivial trivial rfl (by omega) (Try.sorts27 _) (enters_of Try.func34 (by kernel_rfl) rfl) 35 #[.pointer (some ⟨Bm, 0, none⟩)] trivial (enters_of Try.func35 (by kernel_rfl) rfl) _ _ hmax hbytes _ hseq
def Ru : Value → Option (DataW Unit × List MemPlace) := fun _ => some (.agg [], [])
def kb (e : MapEntry) : List UInt8 := match e.key with | .string s => s.data.toList | _ => []
def D0of (es : List MapEntry) : DataW Unit := .map ((es.map (Go.WideElems.rg Try.prog 9 Ru)).foldr DataW.insert [])
theorem und9 : Try.prog.underlying 9 = some .string := by kernel_rfl
section
variable {g : ByteArray → Value} {has : ByteArray → Bool} {n : Nat} {es : Array MapEntry} {cl : Nat}
theorem rd_of (h : MapIs g has n es.toList cl) (hk : ∀ s, has s = true → s.size ≤ 1000000) (e : MapEntry) (he : e ∈ es.toList) : Go.WideElems.rd Try.prog 9 Ru e = some (.string (kb e), .agg []) := by
  obtain ⟨s, h1, h2, _⟩ := h.key e he
  have hs : s.size ≤ maxLen := by have := hk s h2; unfold maxLen; omega
  unfold Go.WideElems.rd kb
  rw [h1, Go.WideMaps.keyOf_string_mk und9 hs]; rfl
theorem owns_of {w : World} {b : Nat} (hb : w.heap[b]? = some (.map es cl)) (h : MapIs g has n es.toList cl) (hk : ∀ s, has s = true → s.size ≤ 1000000) (hn : n ≤ 1000000) : w.ownsMap Try.prog 9 Ru b n (D0of es.toList) := by
  have hsz : es.size = n := by simpa using h.len
  refine ⟨es, cl, hb, ⟨by unfold maxLen; omega, ⟨h.born, ?_, ?_⟩, fun x hx => ⟨_, rd_of h hk x hx⟩⟩, by omega, rfl⟩
  · exact List.pairwise_map.2 (h.once.imp fun {a b} hab => hab.2)
  · exact List.pairwise_map.2 (h.once.imp fun {a b} hab => hab.1)
theorem strKeys_of (h : MapIs g has n es.toList cl) (hk : ∀ s, has s = true → s.size ≤ 1000000) : (strKeys (D0of es.toList)).Perm (es.toList.map kb) := by
  unfold D0of strKeys
  refine ((Go.WideShapes.sorted_perm _).map _).trans ?_
  rw [List.map_map]
  refine List.Perm.of_eq (List.map_congr_left fun e he => ?_)
  show Go.strOf (Go.WideElems.rg Try.prog 9 Ru e).1 = kb e
  unfold Go.WideElems.rg
  rw [rd_of h hk e he]; rfl
theorem size_of (h : MapIs g has n es.toList cl) : Maps.size (D0of es.toList) = n := by
  unfold D0of Maps.size
  rw [← h.len]
  simpa using (Go.WideShapes.sorted_perm (es.toList.map (Go.WideElems.rg Try.prog 9 Ru))).length_eq
def KeyL (has : ByteArray → Bool) (l : List (List UInt8)) : Prop := l.Nodup ∧ ∀ x : List UInt8, x ∈ l ↔ has ⟨⟨x⟩⟩ = true
theorem keyL_of (h : MapIs g has n es.toList cl) : KeyL has (es.toList.map kb) := by
  refine ⟨?_, fun x => ?_⟩
  · refine List.pairwise_map.2 ?_
    refine h.once.imp_of_mem fun {a b} ha hb hab => ?_
    obtain ⟨s, h1, _⟩ := h.key a ha
    obtain ⟨t, h2, _⟩ := h.key b hb
    intro e
    unfold kb at e
    rw [h1, h2] at e
    refine hab.1 ?_
    rw [h1, h2]
    exact congrArg _ (ByteArray.ext (Array.ext' e))
  · rw [List.mem_map]
    constructor
    · rintro ⟨e, he, rfl⟩
      obtain ⟨s, h1, h2, _⟩ := h.key e he
      unfold kb; rw [h1]; exact h2
    · intro hx
      obtain ⟨e, he, h1⟩ := h.all _ hx
      exact ⟨e, he, by unfold kb; rw [h1]⟩
end
def sortK (has : ByteArray → Bool) : List (List UInt8) := by
  classical exact if h : ∃ l, KeyL has l then (Classical.choose h).mergeSort leB else []
theorem sortK_eq {has : ByteArray → Bool} {l : List (List UInt8)} (h : KeyL has l) : sortK has = l.mergeSort leB := by
  have hex : ∃ l, KeyL has l := ⟨l, h⟩
  unfold sortK
  rw [dif_pos hex]
  have hc := Classical.choose_spec hex
  refine mergeSort_of_perm ((List.perm_ext_iff_of_nodup hc.1 h.1).2 fun x => ?_)
  rw [hc.2, h.2]
def keyAt (has : ByteArray → Bool) (e : Nat) : ByteArray := ⟨⟨(sortK has).getD e []⟩⟩
def keyR (has : ByteArray → Bool) : Nat → Nat → Value := fun e _ => .string (keyAt has e)
def keyOk (has : ByteArray → Bool) (n : Nat) : Prop := n ≤ 1000000 ∧ ∀ s, has s = true → s.size ≤ 1000000
def sortedE (H : Heap) (args : List Value) : ER :=
  match args with
  | [.func (.func 35) ⟨[]⟩ ⟨[.pointer (some ⟨q, 0, none⟩)]⟩] =>
    match H.get q with
    | some (.cells [.map (some r)] _) =>
      match H.get r with
      | some (.mp _ has n) => bif Nat.blt (H.next + 1) 2147483000 then
          .tst (propB (keyOk has n)) (.tst (Nat.beq n 0) (.val (.slice none 0 0)) (.mem (.slice (some ⟨H.next, 0, none⟩) n capU) (H.new (.fn 1 (keyR has) n 9)))) .no else .no
      | _ => .no
    | _ => .no
  | _ => .no
theorem take_new {ρ : Ly.Ren} {H : Heap} {w w' : World} (hr : Rep ρ H w) (hb : Below w.heap.size w w') (hn : H.next + 1 < big) {gb : Nat} (hg : w.heap.size ≤ gb) {o : LO} {o' : Obj} (hobj : w'.heap[gb]? = some o') (k wd : Nat) (hown : o.own = true) (ho : OR (ρ.ext H.next gb k wd) H.next o o') :
    Rep (ρ.ext H.next gb k wd) (H.new o) w' ∧ Fresh ρ (ρ.ext H.next gb k wd) w ∧ Keep ρ w w' := by
  have hget : ∀ i, (H.new o).get i = if i = H.next then some o else H.get i := fun i => Tr.get_set _ _ _ hr.small i
  have hgl : gb < w'.heap.size := (Array.getElem?_eq_some_iff.1 hobj).1
  have hn1 : (H.new o).next = H.next + 1 := rfl
  have hk : Keep ρ w w' := ⟨hb.os, hb.tape, hb.output, hb.size, fun k hk _ => hb.block k hk⟩
  have hf : Fresh ρ (ρ.ext H.next gb k wd) w := by
    intro i b h
    by_cases e : i = H.next
    · simp only [Ly.Ren.ext] at h; rw [if_pos e] at h; simp at h; subst h; exact .inl hg
    · simp only [Ly.Ren.ext] at h; rw [if_neg e] at h
      exact .inr ⟨i, h, by simp only [Ly.Ren.ext]; rw [if_neg e]; exact id⟩
  refine ⟨⟨hn, ?_, ?_, ?_, ?_, ?_, hr.fix.step hf hk⟩, hf, hk⟩
  · intro i b h
    simp only [Ly.Ren.ext] at h
    rw [hn1]
    split at h
    · rename_i e; subst e; simp at h; subst h; exact ⟨by omega, hgl⟩
    · have := hr.dom i b h; have := hb.size; exact ⟨by omega, by omega⟩
  · intro i j b x hi hx hj h1 h2
    rw [hget] at hi hj
    simp only [Ly.Ren.ext] at h1 h2
    by_cases e1 : i = H.next <;> by_cases e2 : j = H.next
    · omega
    · rw [if_pos e1] at h1; rw [if_neg e2] at h2; simp at h1; have := (hr.dom j b h2).2; omega
    · rw [if_neg e1] at h1; rw [if_pos e2] at h2; simp at h2; have := (hr.dom i b h1).2; omega
    · rw [if_neg e1] at h1 hi; rw [if_neg e2] at h2 hj; exact hr.inj i j b x hi hx hj h1 h2
  · intro i x hx
    rw [hget] at hx
    rw [hn1]
    by_cases e : i = H.next
    · omega
    · rw [if_neg e] at hx; have := hr.lt hx; omega
  · intro i x hx hxo
    rw [hget] at hx
    by_cases e : i = H.next
    · rw [if_pos e] at hx; simp at hx; subst hx; subst e
      exact ⟨fun _ => by simp [Ly.Ren.ext], gb, o', by simp [Ly.Ren.ext], hobj, ho⟩
    · rw [if_neg e] at hx
      obtain ⟨hro, b, y, hb2, hy, hor⟩ := hr.obj i x hx hxo
      have := (hr.dom i b hb2).2
      have hle : Ly.Ren.le ρ (ρ.ext H.next gb k wd) := ⟨fun i x h => by
        have := (hr.dom i x h).1
        refine ⟨?_, ?_, ?_, ?_, ?_⟩ <;> (simp only [Ly.Ren.ext]; rw [if_neg (by omega)]), rfl⟩
      exact ⟨fun hlk => by simp only [Ly.Ren.ext]; rw [if_neg e]; exact hro hlk, b, y, by simp only [Ly.Ren.ext]; rw [if_neg e]; exact hb2, by rw [hb.block b this]; exact hy,
        OR.mono hle (by simp only [Ly.Ren.ext]; rw [if_neg e]) (by simp only [Ly.Ren.ext]; rw [if_neg e]) (by simp only [Ly.Ren.ext]; rw [if_neg e]) _ _ hor⟩
  · intro i k2 g n hx
    rw [hget] at hx
    by_cases e : i = H.next
    · rw [if_pos e] at hx; simp at hx; subst hx; simp [LO.own] at hown
    · rw [if_neg e] at hx
      obtain ⟨hro, har⟩ := hr.arg i k2 g n hx
      have hle : Ly.Ren.le ρ (ρ.ext H.next gb k wd) := ⟨fun i x h => by
        have := (hr.dom i x h).1
        refine ⟨?_, ?_, ?_, ?_, ?_⟩ <;> (simp only [Ly.Ren.ext]; rw [if_neg (by omega)]), rfl⟩
      exact ⟨by simp only [Ly.Ren.ext]; rw [if_neg e]; exact hro, (har.world (fun b hb2 => hb.block b (hr.dom i b hb2).2)).mono hle (by simp only [Ly.Ren.ext]; rw [if_neg e])⟩
end Go.Proofs.Ytobdoejkioenhaa
namespace Go.Proofs.Ytobdoejkioenhaa
open Go Go.Ly Go.RowKit Go.Maps Go.Sort
theorem rep_below {ρ : Ly.Ren} {H : Heap} {w w' : World} (hr : Rep ρ H w) (h : Below w.heap.size w w') : Rep ρ H w' ∧ Keep ρ w w' := by
  have hk : Keep ρ w w' := ⟨h.os, h.tape, h.output, h.size, fun k hk _ => h.block k hk⟩
  refine ⟨⟨hr.small, fun i b e => ⟨(hr.dom i b e).1, Nat.lt_of_lt_of_le (hr.dom i b e).2 h.size⟩, hr.inj, hr.ltn, fun i o ho hown => ?_, fun i k g n ho => ?_, hr.fix.step (Fresh.refl _ _) hk⟩, hk⟩
  · obtain ⟨h1, b, o', h2, h3, h4⟩ := hr.obj i o ho hown
    exact ⟨h1, b, o', h2, by rw [h.block b (hr.dom i b h2).2]; exact h3, h4⟩
  · exact ⟨(hr.arg i k g n ho).1, (hr.arg i k g n ho).2.world fun b hb => h.block b (hr.dom i b hb).2⟩
theorem sorted_good (H : Heap) (args : List Value) : HGood Try.prog 27 args H (sortedE H args) := by
  unfold sortedE
  split
  · rename_i q
    split
    · rename_i r t hq
      split
      · rename_i g has n hg
        cases hnx : Nat.blt (H.next + 1) 2147483000 with
        | false => exact trivial
        | true =>
        simp only [cond_true]
        have hnx' : H.next + 1 < big := by simpa [Nat.blt_eq, big] using hnx
        refine ⟨fun hok => ?_, fun _ => trivial⟩
        obtain ⟨hn, hk⟩ := propB_iff.1 hok
        -- the call, in every world
        have key : ∀ (ρ : Ly.Ren) (args' : List Value) (w : World), VRL ρ [.func (.func 35) ⟨[]⟩ ⟨[.pointer (some ⟨q, 0, none⟩)]⟩] args' → Rep ρ H w →
            Calls Try.prog 27 ⟨args'⟩ w (fun e w' => ∃ (v : Value), e = .returned v ∧ (sortK has).length = n ∧ w'.ownsRow w.heap.size 9 1 v n ((sortK has).map encStr) ∧ (v = .slice none 0 0 ↔ n = 0) ∧ Below w.heap.size w w') := by
          intro ρ args' w ha hr
          simp only [VRL, VR] at ha
          obtain ⟨_, _, ⟨xs', ys', rfl, ⟨_, _, ⟨b, hb, rfl⟩, rfl, rfl⟩, rfl⟩, rfl, rfl⟩ := ha
          obtain ⟨_, b', o', hb', ho, h0, c', hc, rfl⟩ := hr.obj q _ hq rfl
          obtain rfl : b' = b := by rw [hb] at hb'; exact (Option.some.inj hb').symm
          simp only [VRL, VR] at hc
          obtain ⟨_, _, ⟨bm, hbm, rfl⟩, rfl, rfl⟩ := hc
          obtain ⟨_, bm', om, hbm', hom, hm0, hmw, es, cl, rfl, hmap⟩ := hr.obj r _ hg rfl
          obtain rfl : bm' = bm := by rw [hbm] at hbm'; exact (Option.some.inj hbm').symm
          have hat : ρ.at ⟨q, 0, none⟩ = 0 := by unfold Ly.Ren.at; rw [h0]; rfl
          rw [hat]
          have hown := owns_of (w := w) hom hmap hk hn
          have hsz := size_of hmap
          have hcall := callsIn_wide.1 (sorted_any b' bm' n (D0of es.toList) Ru w (hr.dom q b' hb).2 (by simp [World.cell?, ho]) hown (by rw [hsz]; unfold maxLen; omega) (by rw [hsz]; omega))
          refine hcall.mono ?_
          rintro e w' ⟨v, ss, rfl, hp, hrow, hnil, hbel⟩
          have hp2 := hp.trans (strKeys_of hmap hk)
          have hL := keyL_of hmap
          have hkl : KeyL has ss := ⟨hp2.nodup_iff.2 hL.1, fun x => by rw [hp2.mem_iff]; exact hL.2 x⟩
          have hsk : sortK has = ss.mergeSort leB := sortK_eq hkl
          have hlen : ss.length = n := by rw [hp2.length_eq, List.length_map]; exact hmap.len
          refine ⟨v, rfl, by rw [hsk, List.length_mergeSort]; exact hlen, ?_, ?_, hbel⟩
          · rw [hsk, ← hlen]; exact hrow
          · rw [hnil, ← hlen]; exact List.length_eq_zero_iff.symm
        refine ⟨fun h0 => ?_, fun h1 => ?_⟩
        · have h0 := Nat.eq_of_beq_eq_true h0
          intro ρ args' w ha hr
          refine (key ρ args' w ha hr).mono ?_
          rintro e w' ⟨v, rfl, hlen, hrow, hnil, hbel⟩
          obtain rfl := hnil.2 h0
          obtain ⟨k1, k2⟩ := rep_below hr hbel
          exact ⟨ρ, .slice none 0 0, .slice none 0 0, H, rfl, ⟨rfl, rfl⟩, Ren.le_refl _, Fresh.refl _ _, by simp [VR], k1, k2⟩
        · have h1 : n ≠ 0 := Nat.ne_of_beq_eq_false h1
          intro ρ args' w ha hr
          refine (key ρ args' w ha hr).mono ?_
          rintro e w' ⟨v, rfl, hlen, hrow, hnil, hbel⟩
          obtain ⟨hx, ⟨_, hz⟩ | ⟨gb, cap, cur, rfl, hge, hgb, c1, c2, c3, c4⟩⟩ := hrow
          · exact absurd hz h1
          obtain ⟨q1, q2, q3⟩ := take_new hr hbel hnx' hge (o := .fn 1 (keyR has) n 9) hgb cap 1 rfl (by
            refine ⟨by simp [Ly.Ren.ext], by simp [Ly.Ren.ext], cur.toList.take n, cur.toList.drop n, ?_, ?_, ?_, ?_⟩
            · rw [List.take_append_drop]
            · rw [List.length_take, Array.length_toList, c3]; omega
            · rw [← List.length_append, List.take_append_drop, Array.length_toList, c3]; simp [Ly.Ren.ext]
            · rw [Nat.mul_one] at c4
              refine ⟨fun e j he hj => ?_, fun e j he hj => rfl⟩
              have hj0 : j = 0 := by omega
              subst hj0
              refine ⟨.string (keyAt has e), ?_, by simp [keyR, VR]⟩
              have hel : e < (sortK has).length := by omega
              rw [c4, Nat.zero_add, Nat.mul_one, Nat.add_zero, List.getElem?_map, List.getElem?_eq_getElem hel]
              simp [keyAt, encStr, List.getD, List.getElem?_eq_getElem hel])
          refine ⟨_, _, _, _, rfl, ⟨rfl, rfl⟩, ?_, q2, ?_, q1, q3⟩
          · exact ⟨fun i x h => by
              have := (hr.dom i x h).1
              refine ⟨?_, ?_, ?_, ?_, ?_⟩ <;> (simp only [Ly.Ren.ext]; rw [if_neg (by omega)]), rfl⟩
          · simp only [VR]
            refine ⟨_, cap, rfl, c1, fun e => absurd rfl e, fun _ => ⟨gb, by simp [Ly.Ren.ext], ?_, fun _ _ => by simp [Ly.Ren.ext]⟩⟩
            rw [at_start (by simp [Ly.Ren.ext]) (.inl rfl)]
      · exact trivial
    · exact trivial
  · exact trivial
end Go.Proofs.Ytobdoejkioenhaa
namespace Go.Ly
open Go.RowKit
section
variable {P : Program} {C : Ctx} {Q : Value → Heap → Prop} {E : Env}
def SlotW (u u' : Value) : Prop := ∀ (ρ : Ren) (x : Value), VR ρ u x → VR ρ u' x
theorem SlotW.any (u : Value) : SlotW u anyV := fun _ _ _ => VR_any _
def SlotsR (R : Nat → Value → Value → Prop) : List (Nat × Value) → List (Nat × Value) → Prop
  | [], [] => True
  | (i, v) :: r, (j, u) :: s => i = j ∧ R i v u ∧ SlotsR R r s
  | _, _ => False
theorem MWp.objW {S : St} {b : Nat} {o o' : LO} (hg : S.H.get b = some o) (ho : o.own = true) (ho' : o'.own = true) (hb : b < big) (hw : ∀ (ρ : Ren) (x : Obj), OR ρ b o x → OR ρ b o' x) (hs : MWp P { S with H := S.H.put b o' } Q) : MWp P S Q := by
  intro ρ w g gs R hr hf hfs hR
  refine hs ρ w g gs R ?_ hf hfs hR
  have hget : ∀ i, (S.H.put b o').get i = if i = b then some o' else S.H.get i := fun i => Tr.get_set _ _ _ hb i
  refine ⟨hr.small, hr.dom, fun i j c x hi hx hj h1 h2 => ?_, fun i x hi => ?_, fun i x hi hx => ?_, fun i k g n hi => ?_, hr.fix⟩
  · have hi' : ∃ y, S.H.get i = some y ∧ y.own = true := by
      rw [hget] at hi
      split at hi
      · rename_i e; subst e; exact ⟨o, hg, ho⟩
      · exact ⟨x, hi, hx⟩
    have hj' : (S.H.get j).isSome := by
      rw [hget] at hj
      split at hj
      · rename_i e; subst e; rw [hg]; rfl
      · exact hj
    obtain ⟨y, e1, e2⟩ := hi'
    exact hr.inj i j c y e1 e2 hj' h1 h2
  · rw [hget] at hi
    split at hi
    · rename_i e; subst e; exact hr.ltn i o hg
    · exact hr.ltn i x hi
  · rw [hget] at hi
    split at hi
    · rename_i e; subst e
      simp only [Option.some.injEq] at hi; subst hi
      obtain ⟨h1, c, x', h2, h3, h4⟩ := hr.obj i o hg ho
      exact ⟨h1, c, x', h2, h3, hw ρ x' h4⟩
    · exact hr.obj i x hi hx
  · rw [hget] at hi
    split at hi
    · simp only [Option.some.injEq] at hi; subst hi; simp [LO.own] at ho'
    · exact hr.arg i k g n hi
def opAt (S : St) : Option Oper :=
  match S.top.k with
  | .ops all (o :: _) :: _ => bif guardB all S.top.t S.top.fn.ntmps o && dstOk S.top.fn.ntmps o.dst then some o else none
  | _ => none
def ER.Ends (H : Heap) (v : Value) (H' : Heap) : ER → Prop
  | .val u => u = v ∧ H' = H
  | .mem u K => u = v ∧ H' = K
  | .skip K => v = undef ∧ H' = K
  | _ => False
theorem MWp.op {S : St} {o : Oper} {er : ER} {v : Value} {H' : Heap} (h : opAt S = some o) (hg : ∀ (ρ : Ren) (w : World) (g : AF), Rep ρ S.H w → FR ρ S.top g → Next.Good P ρ w ((execOp g.a.eval o).run P w) er) (he : er.Ends S.H v H')
    (hs : MWp P (behind S v H') Q) : MWp P S Q := by
  unfold opAt at h
  split at h
  · rename_i all o' l k hk
    cases hc : (guardB all S.top.t S.top.fn.ntmps o' && dstOk S.top.fn.ntmps o'.dst) with
    | false => rw [hc] at h; cases h
    | true =>
      rw [hc] at h; simp only [cond_true, Option.some.injEq] at h; subst h
      simp only [Bool.and_eq_true] at hc
      intro ρ w g gs R hr hf hfs hR
      unfold stateWp
      rw [hf.k, hk]
      show wpList P all _ (o' :: l) g.a w
      unfold wpList
      rw [guardB_wanted P hf hc.1, if_pos rfl]
      left
      have hgood := hg ρ w g hr hf
      have hput : (putFr S (.ops all l :: k) o'.dst v H').sat P Q := by
        unfold putFr
        rw [hc.2]
        unfold behind at hs
        rw [hk] at hs
        exact hs
      cases er with
      | val u =>
        obtain ⟨rfl, rfl⟩ := he
        obtain ⟨v', hv, hrun⟩ := hgood
        unfold Oper.wp; rw [hrun]
        exact putFr_sound hput hf hfs (Ren.le_refl ρ) (Fresh.refl ρ w) hr (Keep.refl ρ w) hv hR
      | mem u K =>
        obtain ⟨rfl, rfl⟩ := he
        obtain ⟨ρ', v', w', h1, h2, h3, hrun, h5, h6⟩ := hgood
        unfold Oper.wp; rw [hrun]
        exact putFr_sound hput hf hfs h1 h2 h5 h6 h3 hR
      | skip K =>
        obtain ⟨rfl, rfl⟩ := he
        obtain ⟨w', hrun, h5, h6⟩ := hgood
        unfold Oper.wp; rw [hrun]
        exact putFr_sound hput hf hfs (Ren.le_refl ρ) (Fresh.refl ρ w) h5 h6 VR_undef hR
      | call _ _ => exact he.elim
      | tst _ _ _ => exact he.elim
      | no => exact he.elim
  · cases h
end
end Go.Ly
namespace Go.Proofs.Ytobdoejkioenhaa
open Go Go.Ly Go.RowKit
structure Tb where
  has : ByteArray → Bool
  n : ByteArray → Int
  h : ByteArray → Int
  sz : Nat
def mpOf (t : Tb) : LO := .mp (fun s => .agg ⟨[.string s, .int .u16 (t.n s), .int .i64 (t.h s)]⟩) t.has t.sz
def ptr (b : Nat) : Value := .pointer (some ⟨b, 0, none⟩)
end Go.Proofs.Ytobdoejkioenhaa
namespace Go.Proofs.Ytobdoejkioenhaa
open Go Go.Ly Go.RowKit
def symV (s : ByteArray) (n h : Int) : Value := .agg ⟨[.string s, .int .u16 n, .int .i64 h]⟩
end Go.Proofs.Ytobdoejkioenhaa
namespace Go.Proofs.Ytobdoejkioenhaa
open Go Go.Ly Go.RowKit
def ctxS : Ctx := ctxC.withH 27 sortedE
theorem ctxS_ok : ctxS.Ok Try.prog := ctxC_ok.withH sorted_good
def alO (t : Tb) : List (Option LO) := [some (mpOf t), some (.cells [.map (some 0)] 54)]
def alS (t : Tb) : St := Ly.start Try.f12 [ptr 1] (mkH (alO t))
def alD : St := Ly.start Try.f12 [] H0
def alT : Tb := ⟨fun _ => false, fun _ => 0, fun _ => 0, 1⟩
def alK : List KI := ((Ly.run ctxS 37 [(1, true), (0, false)] (alS alT)).st alD).top.k
def alV (n : Nat) (out : Value) (i : Int) : List Value := slots 29 [(0, ptr 1), (2, out), (12, sl 2 n), (13, .int .i64 n), (14, .int .i64 i)]
def alN (t : Tb) : LO := .fn 1 (keyR t.has) t.sz 9
theorem al0 (t : Tb) : headAt [0, 2, 12, 13, 14] [0, 1, 3] alD (Ly.run ctxS 37 [(1, true), (0, false)] (alS t)) = (true, [(propB (keyOk t.has t.sz), true), (Nat.beq t.sz 0, false)], true, (Try.f12, alK, some 11, 2), alV t.sz (.slice none 0 0) 0, alO t ++ [some (alN t)]) := by kernel_rfl
def slo (n : Nat) : Value := .slice (some ⟨3, 0, some 0⟩) n 18446744073709551616
def symL (t : Tb) (e : Nat) : List Value := [.string (keyAt t.has e), .int .u16 (t.n (keyAt t.has e)), .int .i64 (t.h (keyAt t.has e))]
def alB (t : Tb) (i : Int) : List (Bool × Bool) := [(decide (i < (t.sz : Int)), true), (decide (0 ≤ i) && decide (i < (t.sz : Int)), true), (Nat.blt (0 + i.toNat * 1) t.sz, true), (t.has (keyAt t.has (0 + i.toNat * 1)), true)]
def alJ (k : Nat) : Bool × Bool := (true && (Nat.ble (0 + k) k && ((Nat.beq 3 3 && (Nat.beq 41 41 && (Nat.beq k k && true))) && (Nat.ble 1 k && Nat.ble (k + 1) 4294967296))), true)
theorem al1 (t : Tb) (i : Int) (dst : Option Tmp) : headAt [0, 2, 12, 13, 14] [0, 1, 2, 4] alD (Ly.run ctxS 33 [(0, true), (0, true), (0, true), (0, true)] (mkSt Try.f12 alK dst 2 (alV t.sz (.slice none 0 0) i) (alO t ++ [some (alN t)]))) = (true, alB t i, true, (Try.f12, alK, dst, 2), alV t.sz (slo 1) (IntKind.i64.wrap (i + 1)), alO t ++ [some (alN t), some (.fn 3 (lstG 3 1 (symL t (0 + i.toNat * 1))) 1 41)]) := by kernel_rfl
theorem al2 (t : Tb) (i : Int) (dst : Option Tmp) (G : Nat → Nat → Value) (k : Nat) : headAt [0, 2, 12, 13, 14] [0, 1, 2, 5] alD (Ly.run ctxS 33 [(0, true), (0, true), (0, true), (0, true), (0, true)] (mkSt Try.f12 alK dst 2 (alV t.sz (slo k) i) (alO t ++ [some (alN t), some (.fn 3 G k 41)]))) = (true, alB t i ++ [alJ k], true, (Try.f12, alK, dst, 2), alV t.sz (slo (k + 1)) (IntKind.i64.wrap (i + 1)), alO t ++ [some (alN t), some (.fn 3 (joinG k (fun e j => G (0 + e) j) (lstG 3 1 (symL t (0 + i.toNat * 1)))) (k + 1) 41)]) := by kernel_rfl
theorem al3 (t : Tb) (i : Int) (dst : Option Tmp) (G : Nat → Nat → Value) (k : Nat) : endsAt [0, 1, 3] (Ly.run ctxS 200 [(0, false)] (mkSt Try.f12 alK dst 2 (alV t.sz (slo k) i) (alO t ++ [some (alN t), some (.fn 3 G k 41)]))) = some ([(decide (i < (t.sz : Int)), false)], slo k, 4, alO t ++ [some (.fn 3 G k 41)]) := by kernel_rfl
theorem al4 (t : Tb) : endsAt [0, 1] (Ly.run ctxS 200 [(1, true), (0, true)] (alS t)) = some ([(propB (keyOk t.has t.sz), true), (Nat.beq t.sz 0, true)], .slice none 0 0, 3, alO t) := by kernel_rfl
end Go.Proofs.Ytobdoejkioenhaa
namespace Go.Proofs.Ytobdoejkioenhaa
open Go Go.Ly Go.RowKit Go.Sort
theorem tr_app2 : ∀ {a b : List (Bool × Bool)}, trusted a → trusted b → trusted (a ++ b)
  | [], _, _, h => h
  | _ :: _, _, h, h' => ⟨h.1, tr_app2 h.2 h'⟩
structure KeyG (has : ByteArray → Bool) (n : Nat) : Prop where
  len : (sortK has).length = n
  mem : ∀ x : List UInt8, x ∈ sortK has ↔ has ⟨⟨x⟩⟩ = true
  nodup : (sortK has).Nodup
theorem keyG_of {has : ByteArray → Bool} {l : List (List UInt8)} (h : KeyL has l) : KeyG has l.length := by
  have e := sortK_eq h
  have hp : (sortK has).Perm l := by rw [e]; exact List.mergeSort_perm l leB
  exact ⟨hp.length_eq, fun x => by rw [hp.mem_iff]; exact h.2 x, hp.nodup_iff.2 h.1⟩
theorem KeyG.at {has : ByteArray → Bool} {n : Nat} (h : KeyG has n) {e : Nat} (he : e < n) : has (keyAt has e) = true := by
  have hl : e < (sortK has).length := by rw [h.len]; exact he
  unfold keyAt
  rw [List.getD_eq_getElem?_getD, List.getElem?_eq_getElem hl, Option.getD_some]
  exact (h.mem _).1 (List.getElem_mem hl)
theorem MWp.keys {P : Program} {S : St} {Q : Value → Heap → Prop} {b n : Nat} {g : ByteArray → Value} {has : ByteArray → Bool} (hg : S.H.get b = some (.mp g has n)) (hs : KeyG has n → MWp P S Q) : MWp P S Q := by
  intro ρ w gf gs R hr hf hfs hR
  obtain ⟨_, b', o', hb, ho, h0, hwd, es, cl, rfl, hm⟩ := hr.obj b _ hg rfl
  have hk := keyG_of (keyL_of hm)
  rw [List.length_map, hm.len] at hk
  exact hs hk ρ w gf gs R hr hf hfs hR
def symC (t : Tb) (e j : Nat) : Value := ((symL t e)[j]?).getD undef
theorem noBlk_symC (t : Tb) (e j : Nat) : noBlk (symC t e j) := by
  rcases j with _ | _ | _ | j <;> simp [symC, symL, noBlk, blks, undef, blksL]
theorem alJ_ok {k : Nat} (h : 1 ≤ k) (h2 : k ≤ 1000000) : (alJ k).1 = (alJ k).2 := by
  show (true && (Nat.ble (0 + k) k && ((Nat.beq 3 3 && (Nat.beq 41 41 && (Nat.beq k k && true))) && (Nat.ble 1 k && Nat.ble (k + 1) 4294967296)))) = true
  have hb : Nat.beq k k = true := Nat.beq_refl k
  rw [Nat.zero_add, Nat.ble_eq_true_of_le (Nat.le_refl k), hb, Nat.ble_eq_true_of_le h, Nat.ble_eq_true_of_le (show k + 1 ≤ 4294967296 by omega)]; rfl
def AlQ (t : Tb) : Value → Heap → Prop := fun u K => u = slo t.sz ∧ K.next = 4 ∧ K.get 0 = some (mpOf t) ∧ K.get 1 = some (.cells [.map (some 0)] 54) ∧ K.lock = 0 ∧ ∃ G : Nat → Nat → Value, K.get 3 = some (.fn 3 G t.sz 41) ∧ ∀ e j, e < t.sz → j < 3 → G e j = symC t e j
section
variable {t : Tb}
theorem alB_ok (hk : KeyG t.has t.sz) {i : Nat} (hi : i < t.sz) : trusted (alB t (i : Int)) := by
  have hz : 0 + (i : Int).toNat * 1 = i := by omega
  have hi2 : (i : Int) < (t.sz : Int) := by omega
  unfold alB
  rw [hz]
  exact ⟨by simpa using hi2, by simpa using hi2, by rw [Nat.blt_eq]; exact hi, hk.at hi, trivial⟩
theorem plain_al {G : Nat → Nat → Value} {k : Nat} (hG : ∀ e j, noBlk (G e j)) : ∀ o ∈ alO t ++ [some (alN t), some (.fn 3 G k 41)], ∀ x, o = some x → plainO x := by
  intro o ho x hx
  simp only [alO, List.cons_append, List.nil_append, List.mem_cons, List.not_mem_nil, or_false] at ho
  rcases ho with rfl | rfl | rfl | rfl <;> (simp only [Option.some.injEq] at hx; subst hx)
  · exact trivial
  · exact trivial
  · exact fun e j => by simp [keyR, noBlk, blks]
  · exact hG
theorem plain_al0 : ∀ o ∈ alO t ++ [some (alN t)], ∀ x, o = some x → plainO x := by
  intro o ho x hx
  simp only [alO, List.cons_append, List.nil_append, List.mem_cons, List.not_mem_nil, or_false] at ho
  rcases ho with rfl | rfl | rfl <;> (simp only [Option.some.injEq] at hx; subst hx)
  · exact trivial
  · exact trivial
  · exact fun e j => by simp [keyR, noBlk, blks]
theorem al_loop (hk : KeyG t.has t.sz) (hs : t.sz ≤ 1000000) : ∀ (d i : Nat) (G : Nat → Nat → Value) (dst : Option Tmp), 1 ≤ i → i ≤ t.sz → t.sz - i = d → (∀ e j, noBlk (G e j)) → (∀ e j, e < i → j < 3 → G e j = symC t e j) →
    MWp Try.prog (mkSt Try.f12 alK dst 2 (alV t.sz (slo i) (i : Int)) (alO t ++ [some (alN t), some (.fn 3 G i 41)])) (AlQ t)
  | 0, i, G, dst, h1, h2, hd, hn, hG => by
    have : i = t.sz := by omega
    subst this
    refine (MWp.ends ctxS_ok 200 _ (al3 t t.sz dst G t.sz) (by simp [trusted])).mono ?_
    rintro u K ⟨rfl, hnx, hmap, hl⟩
    simp only [alO, List.map_cons, List.map_nil, List.cons_append, List.nil_append, List.cons.injEq, and_true] at hmap
    exact ⟨rfl, hnx, hmap.1, hmap.2.1, hl, G, hmap.2.2, hG⟩
  | d + 1, i, G, dst, h1, h2, hd, hn, hG => by
    have hi : i < t.sz := by omega
    have hw : IntKind.i64.wrap ((i : Int) + 1) = ((i + 1 : Nat) : Int) := by rw [IntKind.wrap_i64]; omega
    have hz : 0 + (i : Int).toNat * 1 = i := by omega
    have hnb : ∀ e j, noBlk (joinG i (fun e j => G (0 + e) j) (lstG 3 1 (symL t (0 + (i : Int).toNat * 1))) e j) := noBlk_join hn (fun e j => by rw [hz]; exact noBlk_symC t i j)
    refine MWp.head ctxS_ok _ _ _ _ (al2 t i dst G i) (tr_app2 (alB_ok hk hi) ⟨alJ_ok h1 (by omega), trivial⟩) (plain_al hnb) ?_
    rw [hw]
    refine al_loop hk hs d (i + 1) _ dst (by omega) (by omega) (by omega) hnb (fun e j he hj => ?_)
    unfold joinG
    rw [vif_eq, hz]
    by_cases hei : e < i
    · rw [show Nat.blt e i = true by rw [Nat.blt_eq]; exact hei]
      show G (0 + e) j = _
      rw [Nat.zero_add]; exact hG e j hei hj
    · have : e = i := by omega
      subst this
      rw [show Nat.blt e e = false from Bool.eq_false_iff.2 fun h => by rw [Nat.blt_eq] at h; omega]
      rfl
end
end Go.Proofs.Ytobdoejkioenhaa
namespace Go.Proofs.Ytobdoejkioenhaa
open Go Go.Ly Go.RowKit Go.Sort
theorem gAl : ctxS.fn.get 12 = some Try.f12 := by kernel_rfl
section
variable {t : Tb}
theorem al_first (hk : KeyG t.has t.sz) (hok : keyOk t.has t.sz) (h0 : t.sz ≠ 0) : MWp Try.prog (alS t) (AlQ t) := by
  have hb : Nat.beq t.sz 0 = false := Bool.eq_false_iff.2 fun e => h0 (Nat.eq_of_beq_eq_true e)
  refine MWp.head ctxS_ok _ _ _ _ (al0 t) ⟨propB_iff.2 hok, hb, trivial⟩ plain_al0 ?_
  have hw : IntKind.i64.wrap ((0 : Int) + 1) = ((1 : Nat) : Int) := by decide
  refine MWp.head ctxS_ok _ _ _ _ (al1 t 0 (some 11)) (alB_ok (i := 0) hk (by omega)) (plain_al (fun e j => noBlk_symC t 0 j)) ?_
  rw [hw]
  refine al_loop hk hok.1 _ 1 _ _ (by omega) (by omega) rfl (fun e j => noBlk_symC t 0 j) (fun e j he hj => ?_)
  have : e = 0 := by omega
  subst this; rfl
theorem al_calls (hok : keyOk t.has t.sz) (h0 : t.sz ≠ 0) : LCalls Try.prog 12 [ptr 1] (mkH (alO t)) (fun u K => u = slo t.sz ∧ K.next = 4 ∧ K.get 0 = some (mpOf t) ∧ K.get 1 = some (.cells [.map (some 0)] 54) ∧ K.lock = 0 ∧ K.get 3 = some (.fn 3 (symC t) t.sz 41)) := by
  refine LCalls_of ctxS_ok gAl (by kernel_rfl) ?_
  show MWp Try.prog (alS t) _
  refine MWp.keys (b := 0) (g := fun s => .agg ⟨[.string s, .int .u16 (t.n s), .int .i64 (t.h s)]⟩) (has := t.has) (n := t.sz) (by kernel_rfl) (fun hk => ?_)
  refine MWp.weakQ (al_first hk hok h0) ?_
  rintro u K ⟨rfl, h1, h2, h3, h4, G, h5, h6⟩
  refine ⟨{ K with m := K.m.set 3 (some (.fn 3 (symC t) t.sz 41)) }, ?_, ?_⟩
  · have hget : ∀ i, Heap.get { K with m := K.m.set 3 (some (.fn 3 (symC t) t.sz 41)) } i = if i = 3 then some (.fn 3 (symC t) t.sz 41) else K.get i := fun i => Tr.get_set _ _ _ (by unfold big; omega) i
    exact ⟨rfl, h1, by rw [hget]; exact h2, by rw [hget]; exact h3, h4, by rw [hget]; rfl⟩
  · refine ⟨rfl, rfl, fun i o ho => ?_⟩
    have hget : Heap.get { K with m := K.m.set 3 (some (.fn 3 (symC t) t.sz 41)) } i = if i = 3 then some (.fn 3 (symC t) t.sz 41) else K.get i := Tr.get_set _ _ _ (by unfold big; omega) i
    rw [hget] at ho
    by_cases e : i = 3
    · subst e
      rw [if_pos rfl] at ho
      simp only [Option.some.injEq] at ho
      subst ho
      exact ⟨_, h5, (.inr (.inr ⟨3, G, symC t, t.sz, 41, rfl, rfl, h6⟩))⟩
    · rw [if_neg e] at ho
      exact ⟨o, ho, OW.refl o⟩
theorem al_calls0 (hok : keyOk t.has t.sz) (h0 : t.sz = 0) : LCalls Try.prog 12 [ptr 1] (mkH (alO t)) (fun u K => u = .slice none 0 0 ∧ K.next = 3 ∧ K.get 0 = some (mpOf t) ∧ K.get 1 = some (.cells [.map (some 0)] 54) ∧ K.lock = 0) := by
  refine LCalls_of ctxS_ok gAl (by kernel_rfl) ?_
  refine (MWp.ends ctxS_ok 200 _ (al4 t) ⟨propB_iff.2 hok, by rw [h0]; rfl, trivial⟩).mono ?_
  rintro u K ⟨rfl, hnx, hmap, hl⟩
  simp only [alO, List.map_cons, List.map_nil, List.cons.injEq, and_true] at hmap
  exact ⟨rfl, hnx, hmap.1, hmap.2, hl⟩
end
def cellAt (v : Value) (j : Nat) : Value := ((cellsL v)[j]?).getD undef
def tbOf (g : ByteArray → Value) (has : ByteArray → Bool) (n : Nat) : Tb := { has := has, n := fun s => numOf (cellAt (g s) 1), h := fun s => numOf (cellAt (g s) 2), sz := n }
def symOk (g : ByteArray → Value) (has : ByteArray → Bool) (n : Nat) : Prop := LO.mp g has n = mpOf (tbOf g has n)
def allE (H : Heap) (args : List Value) : ER :=
  match args with
  | [.pointer (some ⟨p, 0, none⟩)] =>
    match H.get p with
    | some (.cells [.map (some r)] 54) =>
      match H.get r with
      | some (.mp g has n) => bif Nat.beq H.lock 0 && (Nat.blt (H.next + 2) 2147483000 && !(Nat.beq p r)) then
          .tst (propB (keyOk has n ∧ symOk g has n)) (.tst (Nat.beq n 0) (.mem (.slice none 0 0) { m := H.m, next := H.next + 1, lock := H.lock })
            (.mem (.slice (some ⟨H.next + 1, 0, some 0⟩) n 18446744073709551616) { m := H.m.set (H.next + 1) (some (.fn 3 (symC (tbOf g has n)) n 41)), next := H.next + 2, lock := H.lock })) .no else .no
      | _ => .no
    | _ => .no
  | _ => .no
theorem all_good (H : Heap) (args : List Value) : HGood Try.prog 12 args H (allE H args) := by
  unfold allE
  split
  · rename_i p
    split
    · rename_i r hp
      split
      · rename_i g has n hg
        cases hc : (Nat.beq H.lock 0 && (Nat.blt (H.next + 2) 2147483000 && !(Nat.beq p r))) with
        | false => exact trivial
        | true =>
        simp only [cond_true]
        simp only [Bool.and_eq_true, Bool.not_eq_true'] at hc
        have hl := Nat.eq_of_beq_eq_true hc.1
        have hnx : H.next + 2 < 2147483000 := by simpa [Nat.blt_eq] using hc.2.1
        have hpr : p ≠ r := fun e => by rw [e, Nat.beq_refl] at hc; cases hc.2.2
        refine ⟨fun hok => ?_, fun _ => trivial⟩
        obtain ⟨hok, hsy⟩ := propB_iff.1 hok
        let t := tbOf g has n
        let σ : Nat → Nat := fun i => if i = 0 then r else p
        have hnext : (mkH (alO t)).next = 2 := rfl
        have e0 : ext σ 2 H.next 0 = r := by rw [ext_lt (by omega)]; rfl
        have e1 : ext σ 2 H.next 1 = p := by rw [ext_lt (by omega)]; rfl
        have e3 : ext σ 2 H.next 3 = H.next + 1 := by rw [ext_ge (by omega)]
        have hs0 : (mkH (alO t)).get 0 = some (mpOf t) := by kernel_rfl
        have hs1 : (mkH (alO t)).get 1 = some (.cells [.map (some 0)] 54) := by kernel_rfl
        have hsd : ∀ i o, (mkH (alO t)).get i = some o → i < 2 := fun i o h => by
          rcases Nat.lt_or_ge i 2 with h1 | h1
          · exact h1
          · rw [mkH_get _ (by show 2 < big; unfold big; omega), List.getElem?_eq_none (by exact h1)] at h; cases h
        have hfit : Fits σ (mkH (alO t)) H := by
          refine ⟨by rw [hnext]; unfold big; omega, hl, fun i hi => ?_, fun i o h => by rw [hnext]; exact hsd i o h, fun i o h => ?_, fun i j hi hj h => ?_⟩
          · rw [hnext] at hi
            have : i = 0 ∨ i = 1 := by omega
            rcases this with rfl | rfl
            · exact ⟨_, hs0⟩
            · exact ⟨_, hs1⟩
          · rw [hnext]
            have := hsd i o h
            have : i = 0 ∨ i = 1 := by omega
            rcases this with rfl | rfl
            · rw [hs0] at h; obtain rfl := Option.some.inj h
              show H.get r = some (mpOf t)
              rw [hg, hsy]
            · rw [hs1] at h; obtain rfl := Option.some.inj h
              show H.get p = some (renO _ (.cells [.map (some 0)] 54))
              rw [hp]
              simp only [renO, renL, renV, e0]
          · rw [hnext] at hi hj
            have : i = 0 ∨ i = 1 := by omega
            have : j = 0 ∨ j = 1 := by omega
            rcases ‹i = 0 ∨ i = 1› with rfl | rfl <;> rcases ‹j = 0 ∨ j = 1› with rfl | rfl
            · rfl
            · exact absurd h.symm hpr
            · exact absurd h hpr
            · rfl
        have old : ∀ (Hs' : Heap), Hs'.get 0 = some (mpOf t) → Hs'.get 1 = some (.cells [.map (some 0)] 54) → ∀ k o, H.get k = some o → (∃ i os, ext σ 2 H.next i = k ∧ Hs'.get i = some os ∧ o = renO (ext σ 2 H.next) os) ∨ ((∀ i, i < 2 → σ i ≠ k) ∧ H.get k = some o) := by
          intro Hs' h1 h2 k o ho
          by_cases er : k = r
          · subst er
            rw [hg, hsy] at ho
            exact .inl ⟨0, _, e0, h1, (Option.some.inj ho).symm⟩
          · by_cases ep : k = p
            · subst ep
              rw [hp] at ho
              refine .inl ⟨1, _, e1, h2, ?_⟩
              rw [← Option.some.inj ho]
              simp only [renO, renL, renV, e0]
            · refine .inr ⟨fun i hi => ?_, ho⟩
              have : i = 0 ∨ i = 1 := by omega
              rcases this with rfl | rfl
              · exact fun e => er e.symm
              · exact fun e => ep e.symm
        have hargs : renL (ext σ (mkH (alO t)).next H.next) [ptr 1] = [.pointer (some ⟨p, 0, none⟩)] := by
          rw [hnext]; simp only [renL, ptr, renV, e1]
        refine ⟨fun h0 => ?_, fun h1 => ?_⟩
        · have h0 : t.sz = 0 := Nat.eq_of_beq_eq_true h0
          have hf := LCalls.frame (H := H) (σ := σ) (Q := fun u K => u = .slice none 0 0 ∧ K = { m := H.m, next := H.next + 1, lock := H.lock }) (al_calls0 (t := t) hok h0) hfit (by
            rintro vs Hs' ⟨rfl, k1, k2, k3, k4⟩
            refine ⟨_, ⟨k4, by rw [hnext]; omega, by rw [hnext, k1]; show H.next + (3 - 2) ≤ H.next + 1; omega, by show H.next + 1 < big; unfold big; omega, fun k o ho => ?_⟩, by simp [renV], rfl⟩
            rw [hnext]; exact old Hs' k2 k3 k o ho)
          rw [hargs] at hf
          exact hf
        · have h1 : t.sz ≠ 0 := Nat.ne_of_beq_eq_false h1
          have hf := LCalls.frame (H := H) (σ := σ) (Q := fun u K => u = .slice (some ⟨H.next + 1, 0, some 0⟩) n 18446744073709551616 ∧ K = { m := H.m.set (H.next + 1) (some (.fn 3 (symC t) n 41)), next := H.next + 2, lock := H.lock }) (al_calls (t := t) hok h1) hfit (by
            rintro vs Hs' ⟨rfl, k1, k2, k3, k4, k5⟩
            refine ⟨_, ⟨k4, by rw [hnext]; omega, by rw [hnext, k1]; show H.next + (4 - 2) ≤ H.next + 2; omega, by show H.next + 2 < big; unfold big; omega, fun k o ho => ?_⟩, by rw [hnext]; simp only [slo, renV, e3]; rfl, rfl⟩
            rw [hnext]
            have hget : (Heap.get { m := H.m.set (H.next + 1) (some (.fn 3 (symC t) n 41)), next := H.next + 2, lock := H.lock } k) = if k = H.next + 1 then some (.fn 3 (symC t) n 41) else H.get k := Tr.get_set _ _ _ (by unfold big; omega) k
            rw [hget] at ho
            by_cases e : k = H.next + 1
            · rw [if_pos e] at ho
              refine .inl ⟨3, _, by rw [e3, e], k5, ?_⟩
              rw [← Option.some.inj ho]; rfl
            · rw [if_neg e] at ho
              exact old Hs' k2 k3 k o ho)
          rw [hargs] at hf
          exact hf
      · exact trivial
    · exact trivial
  · exact trivial
end Go.Proofs.Ytobdoejkioenhaa
namespace Go.Ly
open Go.RowKit
section
variable {P : Program} {ρ : Ren} {H : Heap} {w w' : World}
def rowsC (k : Nat) (mk : Nat → (Nat → Nat → Value) → List Value → Bool × Value) (H : Heap) (args : List Value) : ER :=
  match args with
  | x :: rest =>
    match srcR H k x with
    | some (g1, u) => .tst (g1 && (u.csts && (plainL rest && (mk u.n (u.fun k) rest).1))) (.val (mk u.n (u.fun k) rest).2) .no
    | none => .no
  | _ => .no
theorem rowsC_good {k : Nat} {f : FuncId} {mk : Nat → (Nat → Nat → Value) → List Value → Bool × Value} (hp : ∀ n G r, plain (mk n G r).2 = true)
    (hS : ∀ n G r, plainL r = true → (mk n G r).1 = true → LCalls P f (sls 0 n :: r) (mkH [some (.arg k G n)]) (fun u _ => u = (mk n G r).2))
    (hN : ∀ G r, plainL r = true → (mk 0 G r).1 = true → LCalls P f (.slice none 0 0 :: r) (mkH []) (fun u _ => u = (mk 0 G r).2))
    (args : List Value) (ρ : Ren) (args' : List Value) (w : World) (H : Heap) (ha : VRL ρ args args') (hr : Rep ρ H w) : ConGood P ρ f args' w (rowsC k mk H args) := by
  unfold rowsC
  haveI := hr.fix.w
  split
  · rename_i x rest
    simp only [VRL] at ha
    obtain ⟨x', r', hx, hr', rfl⟩ := ha
    cases h1 : srcR H k x with
    | none => exact trivial
    | some gu =>
      obtain ⟨g1, u⟩ := gu
      simp only
      refine ⟨fun hg => ?_, fun _ => trivial⟩
      simp only [Bool.and_eq_true] at hg
      obtain ⟨e1, e2, e3, e4⟩ := hg
      obtain rfl := plainL_eq e3 hr'
      refine ⟨_, plain_VR _ (hp _ _ _), ?_⟩
      rcases nil_or h1 with ⟨rfl, rfl⟩ | ⟨a, n, c, rfl⟩
      · simp only [VR] at hx; subst hx
        exact calls_ro (ρ := rowsRen []) (hN _ r' e3 e4) (hp _ _ _) (by simp only [VRL]; exact ⟨_, _, by simp [VR], plainL_VR _ e3, rfl⟩) (rows_rep (rs := []) rfl (by simp) (by simp) (by simp)) (fun _ => rfl)
      · obtain ⟨hun, p, hrow⟩ := view_rows hr hx h1 e1 e2
        rw [hun] at e4 ⊢
        refine calls_ro (ρ := rowsRenW [p] (fun _ => k)) (hS n (u.fun k) r' e3 e4) (hp _ _ _) (by simp only [VRL]; exact ⟨x', _, VR_sls (slW_VR hrow (by simp)), plainL_VR _ e3, rfl⟩)
            (rowsW_rep (l := [p]) (rs := [(k, u.fun k, n)]) rfl (by simp) (by
              intro i q hq
              rcases i with _ | i
              · simp at hq; exact hrow.low q hq
              · simp at hq) (by
              intro i k2 g2 n2 h0
              rcases i with _ | i
              · simp at h0; obtain ⟨rfl, rfl, rfl⟩ := h0
                refine ⟨rfl, fun e j he hj => ⟨hrow.one e j he hj, ?_⟩⟩
                obtain ⟨q, h3, h4⟩ := hrow.cell e j he hj
                exact ⟨q, by simp [h3], h4⟩
              · simp at h0)) (fun _ => rfl)
  · exact trivial
theorem VR_sl_of {i n : Nat} {v : Value} (h : VR ρ (sls i n) v) : VR ρ (sl i n) v := by
  have e : ρ.at ⟨i, 0, some 0⟩ = ρ.at ⟨i, 0, none⟩ := by simp [Ren.at]
  simp only [sl, sls, VR] at h ⊢
  rw [← e]; exact h
theorem LCalls.unsp {f : FuncId} {args : List Value} {r N : Nat} {R : Heap → Prop} (h : LCalls P f args H (fun u K => u = sls r N ∧ R K)) : LCalls P f args H (fun u K => u = sl r N ∧ R K) := by
  intro ρ args' w ha hr
  refine (h ρ args' w ha hr).mono ?_
  rintro e w' ⟨ρ', v, v', H', rfl, ⟨rfl, h1⟩, h2, h3, h4, h5, h6⟩
  exact ⟨ρ', _, v', H', rfl, ⟨rfl, h1⟩, h2, h3, VR_sl_of h4, h5, h6⟩
def rowNewS (k : Nat) (mk : Nat → (Nat → Nat → Value) → Bool × (Nat → Nat → Value)) (k' : Nat) (t : TypeId) (H : Heap) (args : List Value) : ER :=
  match args with
  | [x] =>
    match srcR H k x with
    | some (g1, u) => bif Nat.beq H.lock 0 && Nat.blt (H.next + 1) 2147483000 then
        .tst (g1 && (u.csts && (mk u.n (u.fun k)).1)) (.tst (Nat.beq u.n 0) (.val (.slice none 0 0)) (.mem (sls H.next u.n) (H.new (.fn k' (mk u.n (u.fun k)).2 u.n t)))) .no else .no
    | none => .no
  | _ => .no
theorem rowNewS_good {k k' : Nat} {t : TypeId} {f : FuncId} {mk : Nat → (Nat → Nat → Value) → Bool × (Nat → Nat → Value)} (hp : 0 < k)
    (hS : ∀ n G, (mk n G).1 = true → n ≠ 0 → ∃ r, LCalls P f [sls 0 n] (mkH [some (.arg k G n)]) (fun u K => u = sls r n ∧ K.get r = some (.fn k' (mk n G).2 n t) ∧ K.lock = 0))
    (hZ : ∀ G, (mk 0 G).1 = true → LCalls P f [sls 0 0] (mkH [some (.arg k G 0)]) (fun u _ => u = .slice none 0 0))
    (hN : LCalls P f [.slice none 0 0] (mkH []) (fun u _ => u = .slice none 0 0))
    (H : Heap) (args : List Value) : HGood P f args H (rowNewS k mk k' t H args) := by
  unfold rowNewS
  split
  · rename_i x
    cases h1 : srcR H k x with
    | none => exact trivial
    | some gu =>
      obtain ⟨g1, u⟩ := gu
      simp only
      cases hb0 : (Nat.beq H.lock 0 && Nat.blt (H.next + 1) 2147483000) with
      | false => exact trivial
      | true =>
        rw [Bool.and_eq_true] at hb0
        have hb : H.next + 1 < big := by have := hb0.2; unfold big; simpa [Nat.blt_eq] using this
        refine ⟨fun hg => ⟨fun h0 => ?_, fun h0 => ?_⟩, fun _ => trivial⟩
        all_goals
          simp only [Bool.and_eq_true] at hg
          obtain ⟨e1, e2, e3⟩ := hg
          intro ρ args' w ha hr
          haveI := hr.fix.w
          simp only [VRL] at ha
          obtain ⟨x', _, hx, rfl, rfl⟩ := ha
        · have h0 := Nat.eq_of_beq_eq_true h0
          have fin : ∀ {a' : List Value}, Calls P f ⟨a'⟩ w (fun e w' => e = .returned (.slice none 0 0) ∧ Below w.heap.size w w') → Calls P f ⟨a'⟩ w (fun e w' => ∃ ρ' v v' H', e = .returned v' ∧ (v = .slice none 0 0 ∧ H' = H) ∧ Ren.le ρ ρ' ∧ Fresh ρ ρ' w ∧ VR ρ' v v' ∧ Rep ρ' H' w' ∧ Keep ρ w w') := by
            intro a' hc
            refine hc.mono ?_
            rintro e w' ⟨rfl, hbl⟩
            exact ⟨ρ, _, _, H, rfl, ⟨rfl, rfl⟩, Ren.le_refl _, Fresh.refl _ _, by simp [VR], hr.below hbl, Below.toKeep hbl⟩
          rcases nil_or h1 with ⟨rfl, rfl⟩ | ⟨a, n, c, rfl⟩
          · simp only [VR] at hx; subst hx
            exact fin (calls_ro (ρ := rowsRen []) hN (by simp [plain]) (by simp [VRL, VR]) (rows_rep (rs := []) rfl (by simp) (by simp) (by simp)) (fun _ => rfl))
          · obtain ⟨hun, p, hrow⟩ := view_rows hr hx h1 e1 e2
            have hn : n = 0 := by omega
            subst hn
            rw [hun] at e3
            refine fin (calls_ro (ρ := rowsRenW [p] (fun _ => k)) (hZ _ e3) (by simp [plain]) (by simp only [VRL]; exact ⟨x', [], VR_sls (slW_VR hrow (by simp)), rfl, rfl⟩)
              (rowsW_rep (l := [p]) (rs := [(k, u.fun k, 0)]) rfl (by simp) (by
                intro i q hq
                rcases i with _ | i
                · simp at hq; exact hrow.low q hq
                · simp at hq) (by
                intro i k2 g2 n2 h0
                rcases i with _ | i
                · simp at h0; obtain ⟨rfl, rfl, rfl⟩ := h0
                  exact ⟨rfl, fun e j he hj => by omega⟩
                · simp at h0)) (fun _ => rfl))
        · have h0 : u.n ≠ 0 := fun e => by rw [e] at h0; cases h0
          rcases nil_or h1 with ⟨rfl, rfl⟩ | ⟨a, n, c, rfl⟩
          · exact absurd rfl h0
          · obtain ⟨hun, p, hrow⟩ := view_rows hr hx h1 e1 e2
            rw [hun] at e3 h0 ⊢
            obtain ⟨r, hL⟩ := hS n _ e3 h0
            refine (calls_new (ρ1 := rowsRenW [p] (fun _ => k)) hL.unsp (by simp only [VRL]; exact ⟨x', [], VR_sls (slW_VR hrow (by simp)), rfl, rfl⟩)
              (rowsW_rep (l := [p]) (rs := [(k, u.fun k, n)]) rfl (by simp) (by
                intro i q hq
                rcases i with _ | i
                · simp at hq; exact hrow.low q hq
                · simp at hq) (by
                intro i k2 g2 n2 h0
                rcases i with _ | i
                · simp at h0; obtain ⟨rfl, rfl, rfl⟩ := h0
                  refine ⟨rfl, fun e j he hj => ⟨hrow.one e j he hj, ?_⟩⟩
                  obtain ⟨q, h3, h4⟩ := hrow.cell e j he hj
                  exact ⟨q, by simp [h3], h4⟩
                · simp at h0)) (fun _ => rfl) hr hb).mono ?_
            rintro e w' ⟨ρ', v, v', H', rfl, ⟨rfl, rfl⟩, q1, q2, q3, q4, q5⟩
            exact ⟨ρ', _, v', _, rfl, ⟨rfl, rfl⟩, q1, q2, VR_sls q3, q4, q5⟩
  · exact trivial
end
end Go.Ly
namespace Go.Proofs.Ytobdoejkioenhaa
open Go Go.Ly Go.RowKit
def symF (nm : Nat → ByteArray) (ns hs : Nat → Int) : Nat → Nat → Value := fun e j => match j with
  | 0 => .string (nm e)
  | 1 => .int .u16 (ns e)
  | 2 => .int .i64 (hs e)
  | _ => undef
def bkD : St := Ly.start Try.f14 [] H0
def bkS (nm : Nat → ByteArray) (ns hs : Nat → Int) (n : Nat) : St := Ly.start Try.f14 [sls 0 n] (mkH [some (.arg 3 (symF nm ns hs) n)])
def bkN : Nat → ByteArray := fun _ => ⟨⟨[]⟩⟩
def bkZ : Nat → Int := fun _ => 0
def bkK : List KI := ((Ly.run ctxS 15 [] (bkS bkN bkZ bkZ 0)).st bkD).top.k
def bkV (n : Nat) (out : Value) (i : Int) : List Value := slots 31 [(0, sls 0 n), (3, out), (4, .int .i64 i)]
theorem bk0 (nm : Nat → ByteArray) (ns hs : Nat → Int) (n : Nat) : headAt [0, 3, 4] [0] bkD (Ly.run ctxS 15 [] (bkS nm ns hs n)) = (true, [], true, (Try.f14, bkK, none, 1), bkV n (.slice none 0 0) 0, [some (.arg 3 (symF nm ns hs) n)]) := by kernel_rfl
def bkB (n : Nat) (i : Int) : List (Bool × Bool) := [(decide (i < (n : Int)), true), (decide (0 ≤ i) && decide (i < (n : Int)), true), (Nat.blt (0 + i.toNat) n, true), (decide (0 ≤ i) && decide (i < (n : Int)), true), (Nat.blt (0 + i.toNat) n, true), (decide (0 ≤ i) && decide (i < (n : Int)), true), (Nat.blt (0 + i.toNat) n, true)]
def bkJ (k : Nat) : Bool × Bool := (true && (Nat.ble (0 + k) k && ((Nat.beq 3 3 && (Nat.beq 24 24 && (Nat.beq k k && true))) && (Nat.ble 1 k && Nat.ble (k + 1) 4294967296))), true)
def bkP : Path := [(0, true), (0, true), (0, true), (0, true), (0, true), (0, true), (0, true)]
def bkL (nm : Nat → ByteArray) (ns hs : Nat → Int) (e : Nat) : List Value := [.string (nm e), .int .u16 (ns e), .int .i64 (hs e)]
theorem bk1 (nm : Nat → ByteArray) (ns hs : Nat → Int) (n : Nat) (i : Int) : headAt [0, 3, 4] [0, 2] bkD (Ly.run ctxS 20 bkP (mkSt Try.f14 bkK none 1 (bkV n (.slice none 0 0) i) [some (.arg 3 (symF nm ns hs) n)])) = (true, bkB n i, true, (Try.f14, bkK, none, 1), bkV n (sls 1 1) (IntKind.i64.wrap (i + 1)), [some (.arg 3 (symF nm ns hs) n), some (.fn 3 (lstG 3 1 (bkL nm ns hs (0 + i.toNat))) 1 24)]) := by kernel_rfl
theorem bk2 (nm : Nat → ByteArray) (ns hs : Nat → Int) (n : Nat) (i : Int) (G : Nat → Nat → Value) (k : Nat) : headAt [0, 3, 4] [0, 3] bkD (Ly.run ctxS 20 (bkP ++ [(0, true)]) (mkSt Try.f14 bkK none 1 (bkV n (sls 1 k) i) [some (.arg 3 (symF nm ns hs) n), some (.fn 3 G k 24)])) = (true, bkB n i ++ [bkJ k], true, (Try.f14, bkK, none, 1), bkV n (sls 1 (k + 1)) (IntKind.i64.wrap (i + 1)), [some (.arg 3 (symF nm ns hs) n), some (.fn 3 (joinG k (fun e j => G (0 + e) j) (lstG 3 1 (bkL nm ns hs (0 + i.toNat)))) (k + 1) 24)]) := by kernel_rfl
theorem bk3 (nm : Nat → ByteArray) (ns hs : Nat → Int) (n : Nat) (i : Int) (G : Nat → Nat → Value) (k : Nat) : endsAt [1] (Ly.run ctxS 200 [(0, false)] (mkSt Try.f14 bkK none 1 (bkV n (sls 1 k) i) [some (.arg 3 (symF nm ns hs) n), some (.fn 3 G k 24)])) = some ([(decide (i < (n : Int)), false)], sls 1 k, 2, [some (.fn 3 G k 24)]) := by kernel_rfl
theorem bk4 (G : Nat → Nat → Value) : endsAt [] (Ly.run ctxS 200 [] (Ly.start Try.f14 [sls 0 0] (mkH [some (.arg 3 G 0)]))) = some ([], .slice none 0 0, 1, []) := by kernel_rfl
theorem bk5 : endsAt [] (Ly.run ctxS 200 [] (Ly.start Try.f14 [.slice none 0 0] (mkH []))) = some ([], .slice none 0 0, 0, []) := by kernel_rfl
end Go.Proofs.Ytobdoejkioenhaa
namespace Go.Proofs.Ytobdoejkioenhaa
open Go Go.Ly Go.RowKit
def strAt : Value → ByteArray
  | .string s => s
  | _ => ⟨⟨[]⟩⟩
def isSym (G : Nat → Nat → Value) (n : Nat) : Prop := n ≤ 1000000 ∧ ∀ e, e < n → ∃ s a b, G e 0 = .string s ∧ G e 1 = .int .u16 a ∧ G e 2 = .int .i64 b
def asSym (G : Nat → Nat → Value) : Nat → Nat → Value := symF (fun e => strAt (G e 0)) (fun e => numOf (G e 1)) (fun e => numOf (G e 2))
theorem asSym_eq {G : Nat → Nat → Value} {n : Nat} (h : isSym G n) : ∀ e j, e < n → j < 3 → G e j = asSym G e j := by
  intro e j he hj
  obtain ⟨s, a, b, h0, h1, h2⟩ := h.2 e he
  have : j = 0 ∨ j = 1 ∨ j = 2 := by omega
  rcases this with rfl | rfl | rfl <;> simp [asSym, symF, strAt, numOf, h0, h1, h2]
theorem noBlk_symF (nm : Nat → ByteArray) (ns hs : Nat → Int) (e j : Nat) : noBlk (symF nm ns hs e j) := by
  rcases j with _ | _ | _ | j <;> simp [symF, noBlk, blks, undef, blksL]
theorem lst_symF (nm : Nat → ByteArray) (ns hs : Nat → Int) (e x j : Nat) (hj : j < 3) : lstG 3 1 (bkL nm ns hs e) x j = symF nm ns hs e j := by
  have : j = 0 ∨ j = 1 ∨ j = 2 := by omega
  rcases this with rfl | rfl | rfl <;> rfl
theorem noBlk_bkL (nm : Nat → ByteArray) (ns hs : Nat → Int) (e x j : Nat) : noBlk (lstG 3 1 (bkL nm ns hs e) x j) := by
  rcases j with _ | _ | _ | j <;> simp [lstG, bkL, noBlk, blks, undef, blksL]
theorem bkJ_ok {k : Nat} (h : 1 ≤ k) (h2 : k ≤ 1000000) : (bkJ k).1 = (bkJ k).2 := by
  show (true && (Nat.ble (0 + k) k && ((Nat.beq 3 3 && (Nat.beq 24 24 && (Nat.beq k k && true))) && (Nat.ble 1 k && Nat.ble (k + 1) 4294967296)))) = true
  have hb : Nat.beq k k = true := Nat.beq_refl k
  rw [Nat.zero_add, Nat.ble_eq_true_of_le (Nat.le_refl k), hb, Nat.ble_eq_true_of_le h, Nat.ble_eq_true_of_le (show k + 1 ≤ 4294967296 by omega)]; rfl
section
variable {nm : Nat → ByteArray} {ns hs : Nat → Int} {n : Nat}
theorem bkB_ok {i : Nat} (hi : i < n) : trusted (bkB n (i : Int)) := by
  have hz : 0 + (i : Int).toNat = i := by omega
  have hi2 : (i : Int) < (n : Int) := by omega
  unfold bkB
  rw [hz]
  have h1 : decide ((i : Int) < (n : Int)) = true := decide_eq_true hi2
  have h2 : (decide (0 ≤ (i : Int)) && decide ((i : Int) < (n : Int))) = true := by simpa using hi2
  have h3 : Nat.blt i n = true := by rw [Nat.blt_eq]; exact hi
  exact ⟨h1, h2, h3, h2, h3, h2, h3, trivial⟩
theorem plain_bk {G : Nat → Nat → Value} {k : Nat} (hG : ∀ e j, noBlk (G e j)) : ∀ o ∈ [some (LO.arg 3 (symF nm ns hs) n), some (LO.fn 3 G k 24)], ∀ x, o = some x → plainO x := by
  intro o ho x hx
  simp only [List.mem_cons, List.not_mem_nil, or_false] at ho
  rcases ho with rfl | rfl <;> (simp only [Option.some.injEq] at hx; subst hx)
  · exact noBlk_symF nm ns hs
  · exact hG
theorem plain_bk0 : ∀ o ∈ [some (LO.arg 3 (symF nm ns hs) n)], ∀ x, o = some x → plainO x := by
  intro o ho x hx
  simp only [List.mem_cons, List.not_mem_nil, or_false] at ho
  subst ho
  simp only [Option.some.injEq] at hx; subst hx
  exact noBlk_symF nm ns hs
theorem bk_loop (hs' : n ≤ 1000000) : ∀ (d i : Nat) (G : Nat → Nat → Value), 1 ≤ i → i ≤ n → n - i = d → (∀ e j, noBlk (G e j)) → (∀ e j, e < i → j < 3 → G e j = symF nm ns hs e j) →
    MWp Try.prog (mkSt Try.f14 bkK none 1 (bkV n (sls 1 i) (i : Int)) [some (.arg 3 (symF nm ns hs) n), some (.fn 3 G i 24)]) (fun u K => u = sls 1 n ∧ K.next = 2 ∧ K.lock = 0 ∧ ∃ G : Nat → Nat → Value, K.get 1 = some (.fn 3 G n 24) ∧ ∀ e j, e < n → j < 3 → G e j = symF nm ns hs e j)
  | 0, i, G, h1, h2, hd, hn, hG => by
    have : i = n := by omega
    subst this
    refine (MWp.ends ctxS_ok 200 _ (bk3 nm ns hs i i G i) (by simp [trusted])).mono ?_
    rintro u K ⟨rfl, hnx, hmap, hl⟩
    simp only [List.map_cons, List.map_nil, List.cons.injEq, and_true] at hmap
    exact ⟨rfl, hnx, hl, G, hmap, hG⟩
  | d + 1, i, G, h1, h2, hd, hn, hG => by
    have hi : i < n := by omega
    have hw : IntKind.i64.wrap ((i : Int) + 1) = ((i + 1 : Nat) : Int) := by rw [IntKind.wrap_i64]; omega
    have hz : 0 + (i : Int).toNat = i := by omega
    have hnb : ∀ e j, noBlk (joinG i (fun e j => G (0 + e) j) (lstG 3 1 (bkL nm ns hs (0 + (i : Int).toNat))) e j) := noBlk_join hn (fun e j => noBlk_bkL nm ns hs _ e j)
    refine MWp.head ctxS_ok _ _ _ _ (bk2 nm ns hs n i G i) (tr_app2 (bkB_ok hi) ⟨bkJ_ok h1 (by omega), trivial⟩) (plain_bk hnb) ?_
    rw [hw]
    refine bk_loop hs' d (i + 1) _ (by omega) (by omega) (by omega) hnb (fun e j he hj => ?_)
    unfold joinG
    rw [vif_eq, hz]
    by_cases hei : e < i
    · rw [show Nat.blt e i = true by rw [Nat.blt_eq]; exact hei]
      show G (0 + e) j = _
      rw [Nat.zero_add]; exact hG e j hei hj
    · have : e = i := by omega
      subst this
      rw [show Nat.blt e e = false from Bool.eq_false_iff.2 fun h => by rw [Nat.blt_eq] at h; omega]
      exact lst_symF nm ns hs e (e - e) j hj
theorem gBk : ctxS.fn.get 14 = some Try.f14 := by kernel_rfl
theorem bk_calls (hs' : n ≤ 1000000) (h0 : n ≠ 0) : LCalls Try.prog 14 [sls 0 n] (mkH [some (.arg 3 (symF nm ns hs) n)]) (fun u K => u = sls 1 n ∧ K.get 1 = some (.fn 3 (symF nm ns hs) n 24) ∧ K.lock = 0) := by
  refine LCalls_of ctxS_ok gBk (by kernel_rfl) ?_
  refine MWp.weakQ (Q := fun u K => u = sls 1 n ∧ K.next = 2 ∧ K.lock = 0 ∧ ∃ G : Nat → Nat → Value, K.get 1 = some (.fn 3 G n 24) ∧ ∀ e j, e < n → j < 3 → G e j = symF nm ns hs e j) ?_ ?_
  · refine MWp.head ctxS_ok _ _ _ _ (bk0 nm ns hs n) trivial plain_bk0 ?_
    have hw : IntKind.i64.wrap ((0 : Int) + 1) = ((1 : Nat) : Int) := by decide
    refine MWp.head ctxS_ok _ _ _ _ (bk1 nm ns hs n 0) (bkB_ok (i := 0) (by omega)) (plain_bk (fun e j => noBlk_bkL nm ns hs _ e j)) ?_
    rw [hw]
    refine bk_loop hs' _ 1 _ (by omega) (by omega) rfl (fun e j => noBlk_bkL nm ns hs _ e j) (fun e j he hj => ?_)
    have : e = 0 := by omega
    subst this
    exact lst_symF nm ns hs 0 0 j hj
  · rintro u K ⟨rfl, h1, h2, G, h3, h4⟩
    refine ⟨{ K with m := K.m.set 1 (some (.fn 3 (symF nm ns hs) n 24)) }, ?_, ?_⟩
    · have hget : Heap.get { K with m := K.m.set 1 (some (.fn 3 (symF nm ns hs) n 24)) } 1 = some (.fn 3 (symF nm ns hs) n 24) := (Tr.get_set _ _ _ (by unfold big; omega) 1).trans (if_pos rfl)
      exact ⟨rfl, hget, h2⟩
    · refine ⟨rfl, rfl, fun i o ho => ?_⟩
      have hget : Heap.get { K with m := K.m.set 1 (some (.fn 3 (symF nm ns hs) n 24)) } i = if i = 1 then some (.fn 3 (symF nm ns hs) n 24) else K.get i := Tr.get_set _ _ _ (by unfold big; omega) i
      rw [hget] at ho
      by_cases e : i = 1
      · subst e
        rw [if_pos rfl] at ho
        simp only [Option.some.injEq] at ho
        subst ho
        exact ⟨_, h3, (.inr (.inr ⟨3, G, symF nm ns hs, n, 24, rfl, rfl, h4⟩))⟩
      · rw [if_neg e] at ho
        exact ⟨o, ho, OW.refl o⟩
end
def bkMk (n : Nat) (G : Nat → Nat → Value) : Bool × (Nat → Nat → Value) := (propB (isSym G n), asSym G)
def backE : Heap → List Value → ER := rowNewS 3 bkMk 3 24
theorem back_good (H : Heap) (args : List Value) : HGood Try.prog 14 args H (backE H args) := by
  refine rowNewS_good (by decide) (fun n G h h0 => ⟨1, ?_⟩) (fun G h => ?_) ?_ H args
  · have hS := propB_iff.1 h
    exact LCalls.argEq (asSym_eq hS) (bk_calls hS.1 h0)
  · exact LCalls_of ctxS_ok gBk (by kernel_rfl) ((MWp.ends ctxS_ok 200 _ (bk4 G) trivial).mono fun u K h => h.1)
  · exact LCalls_of ctxS_ok gBk (by kernel_rfl) ((MWp.ends ctxS_ok 200 _ bk5 trivial).mono fun u K h => h.1)
end Go.Proofs.Ytobdoejkioenhaa
namespace Go.Proofs.Ytobdoejkioenhaa
open Go Go.Ly Go.RowKit
def saD : St := Ly.start Try.f13 [] H0
def saO (G G' : Nat → Nat → Value) (n m : Nat) : List (Option LO) := [some (.arg 3 G n), some (.arg 3 G' m)]
def saS (G G' : Nat → Nat → Value) (n m : Nat) : St := Ly.start Try.f13 [sls 0 n, sls 1 m] (mkH (saO G G' n m))
def saK : List KI := ((Ly.run ctxS 22 [(0, false)] (saS (symF bkN bkZ bkZ) (symF bkN bkZ bkZ) 0 0)).st saD).top.k
def saV (n m : Nat) (i : Int) : List Value := slots 26 [(0, sls 0 n), (1, sls 1 m), (5, .int .i64 i)]
theorem sa0 (G G' : Nat → Nat → Value) (n m : Nat) : headAt [0, 1, 5] [0, 1] saD (Ly.run ctxS 22 [(0, false)] (saS G G' n m)) = (true, [((n : Int) != (m : Int), false)], true, (Try.f13, saK, none, 2), saV n m 0, saO G G' n m) := by kernel_rfl
theorem saN (G G' : Nat → Nat → Value) (n m : Nat) : (Ly.run ctxS 200 [(0, true)] (saS G G' n m)).out? = some ([((n : Int) != (m : Int), true)], .bool false) := by kernel_rfl
theorem saT (G G' : Nat → Nat → Value) (n m : Nat) (i : Int) : (Ly.run ctxS 200 [(0, false)] (mkSt Try.f13 saK none 2 (saV n m i) (saO G G' n m))).out? = some ([(decide (i < (n : Int)), false)], .bool true) := by kernel_rfl
def opF (kd : Nat → Int) (nm : Nat → ByteArray) (ns hs : Nat → Int) : Nat → Nat → Value := fun e j => match j with
  | 0 => .int .i64 (kd e)
  | 1 => .string (nm e)
  | 2 => .int .u16 (ns e)
  | 3 => .int .i64 (hs e)
  | _ => undef
def liD : St := Ly.start Try.f11 [] H0
def liS (G : Nat → Nat → Value) (n : Nat) : St := Ly.start Try.f11 [sls 0 n] (mkH [some (.arg 4 G n)])
def liK : List KI := ((Ly.run ctxS 20 [(0, false)] (liS (opF bkZ bkN bkZ bkZ) 0)).st liD).top.k
def liV (n : Nat) (i : Int) : List Value := slots 21 [(0, sls 0 n), (3, .int .i64 i)]
theorem li0 (G : Nat → Nat → Value) (n : Nat) : headAt [0, 3] [0] liD (Ly.run ctxS 20 [(0, false)] (liS G n)) = (true, [(decide (60 < (n : Int)), false)], true, (Try.f11, liK, none, 1), liV n 0, [some (.arg 4 G n)]) := by kernel_rfl
theorem liN (G : Nat → Nat → Value) (n : Nat) : (Ly.run ctxS 200 [(0, true)] (liS G n)).out? = some ([(decide (60 < (n : Int)), true)], .bool false) := by kernel_rfl
theorem liT (G : Nat → Nat → Value) (n : Nat) (i : Int) : (Ly.run ctxS 200 [(0, false)] (mkSt Try.f11 liK none 1 (liV n i) [some (.arg 4 G n)])).out? = some ([(decide (i < (n : Int)), false)], .bool true) := by kernel_rfl
def saT1 (n m : Nat) (i : Int) (b b' : Bool) : List (Bool × Bool) := [(decide (i < (n : Int)), true), (decide (0 ≤ i) && decide (i < (n : Int)), true), (Nat.blt (0 + i.toNat) n, true), (decide (0 ≤ i) && decide (i < (m : Int)), true), (Nat.blt (0 + i.toNat) m, true), (b, b')]
def saB (nm nm2 : Nat → ByteArray) (ns hs ns2 hs2 : Nat → Int) (e : Nat) : Bool := strEq (nm e) (nm2 e) && (ns e == ns2 e && (hs e == hs2 e && true))
theorem sa1 (nm nm2 : Nat → ByteArray) (ns hs ns2 hs2 : Nat → Int) (n m : Nat) (i : Int) : headAt [0, 1, 5] [0, 1] saD (Ly.run ctxS 23 [(0, true), (0, true), (0, true), (0, true), (0, true), (0, false)] (mkSt Try.f13 saK none 2 (saV n m i) (saO (symF nm ns hs) (symF nm2 ns2 hs2) n m))) = (true, saT1 n m i (!saB nm nm2 ns hs ns2 hs2 (0 + i.toNat)) false, true, (Try.f13, saK, none, 2), saV n m (IntKind.i64.wrap (i + 1)), saO (symF nm ns hs) (symF nm2 ns2 hs2) n m) := by kernel_rfl
theorem sa2 (nm nm2 : Nat → ByteArray) (ns hs ns2 hs2 : Nat → Int) (n m : Nat) (i : Int) : (Ly.run ctxS 200 [(0, true), (0, true), (0, true), (0, true), (0, true), (0, true)] (mkSt Try.f13 saK none 2 (saV n m i) (saO (symF nm ns hs) (symF nm2 ns2 hs2) n m))).out? = some (saT1 n m i (!saB nm nm2 ns hs ns2 hs2 (0 + i.toNat)) true, .bool false) := by kernel_rfl
def liT1 (n : Nat) (i : Int) (b b' : Bool) : List (Bool × Bool) := [(decide (i < (n : Int)), true), (decide (0 ≤ i) && decide (i < (n : Int)), true), (Nat.blt (0 + i.toNat) n, true), (b, b')]
theorem li1 (kd : Nat → Int) (nm : Nat → ByteArray) (ns hs : Nat → Int) (n : Nat) (i : Int) : headAt [0, 3] [0] liD (Ly.run ctxS 32 [(0, true), (0, true), (0, true), (0, false)] (mkSt Try.f11 liK none 1 (liV n i) [some (.arg 4 (opF kd nm ns hs) n)])) = (true, liT1 n i (decide (100 < ((nm (0 + i.toNat)).size : Int))) false, true, (Try.f11, liK, none, 1), liV n (IntKind.i64.wrap (i + 1)), [some (.arg 4 (opF kd nm ns hs) n)]) := by kernel_rfl
theorem li2 (kd : Nat → Int) (nm : Nat → ByteArray) (ns hs : Nat → Int) (n : Nat) (i : Int) : (Ly.run ctxS 200 [(0, true), (0, true), (0, true), (0, true)] (mkSt Try.f11 liK none 1 (liV n i) [some (.arg 4 (opF kd nm ns hs) n)])).out? = some (liT1 n i (decide (100 < ((nm (0 + i.toNat)).size : Int))) true, .bool false) := by kernel_rfl
theorem liZ : (Ly.run ctxS 200 [] (Ly.start Try.f11 [.slice none 0 0] (mkH []))).out? = some ([], .bool true) := by kernel_rfl
theorem saZ1 (G : Nat → Nat → Value) (m : Nat) (b : Bool) : (Ly.run ctxS 200 [(0, b)] (Ly.start Try.f13 [.slice none 0 0, sls 0 m] (mkH [some (.arg 3 G m)]))).out? = some ([((0 : Int) != (m : Int), b)], .bool (!b)) := by cases b <;> kernel_rfl
theorem saZ2 (G : Nat → Nat → Value) (n : Nat) : (Ly.run ctxS 200 [(0, true)] (Ly.start Try.f13 [sls 0 n, .slice none 0 0] (mkH [some (.arg 3 G n)]))).out? = some ([((n : Int) != 0, true)], .bool false) := by kernel_rfl
theorem saZ4 (G : Nat → Nat → Value) : (Ly.run ctxS 200 [] (Ly.start Try.f13 [sls 0 0, .slice none 0 0] (mkH [some (.arg 3 G 0)]))).out? = some ([], .bool true) := by kernel_rfl
theorem saZ3 : (Ly.run ctxS 200 [] (Ly.start Try.f13 [.slice none 0 0, .slice none 0 0] (mkH []))).out? = some ([], .bool true) := by kernel_rfl
end Go.Proofs.Ytobdoejkioenhaa
namespace Go.Proofs.Ytobdoejkioenhaa
open Go Go.Ly Go.RowKit
section
variable {P : Program}
def rowsC2 (k : Nat) (mk : Nat → (Nat → Nat → Value) → Nat → (Nat → Nat → Value) → Bool × Value) (H : Heap) (args : List Value) : ER :=
  match args with
  | [x, y] =>
    match srcR H k x, srcR H k y with
    | some (g1, u), some (g2, v) => .tst (g1 && (u.csts && (g2 && (v.csts && (mk u.n (u.fun k) v.n (v.fun k)).1)))) (.val (mk u.n (u.fun k) v.n (v.fun k)).2) .no
    | _, _ => .no
  | _ => .no
theorem rowsC2_good {k : Nat} {f : FuncId} {mk : Nat → (Nat → Nat → Value) → Nat → (Nat → Nat → Value) → Bool × Value} (hp : ∀ n G m G', plain (mk n G m G').2 = true)
    (hSS : ∀ n G m G', (mk n G m G').1 = true → LCalls P f [sls 0 n, sls 1 m] (mkH [some (.arg k G n), some (.arg k G' m)]) (fun u _ => u = (mk n G m G').2))
    (hNS : ∀ G m G', (mk 0 G m G').1 = true → LCalls P f [.slice none 0 0, sls 0 m] (mkH [some (.arg k G' m)]) (fun u _ => u = (mk 0 G m G').2))
    (hSN : ∀ n G G', (mk n G 0 G').1 = true → LCalls P f [sls 0 n, .slice none 0 0] (mkH [some (.arg k G n)]) (fun u _ => u = (mk n G 0 G').2))
    (hNN : ∀ G G', (mk 0 G 0 G').1 = true → LCalls P f [.slice none 0 0, .slice none 0 0] (mkH []) (fun u _ => u = (mk 0 G 0 G').2))
    (args : List Value) (ρ : Ly.Ren) (args' : List Value) (w : World) (H : Heap) (ha : VRL ρ args args') (hr : Rep ρ H w) : ConGood P ρ f args' w (rowsC2 k mk H args) := by
  unfold rowsC2
  haveI := hr.fix.w
  split
  · rename_i x y
    simp only [VRL] at ha
    obtain ⟨x', _, hx, ⟨y', _, hy, rfl, rfl⟩, rfl⟩ := ha
    split
    · rename_i g1 u g2 v h1 h2
      refine ⟨fun hg => ?_, fun _ => trivial⟩
      simp only [Bool.and_eq_true] at hg
      obtain ⟨e1, e2, e3, e4, e5⟩ := hg
      refine ⟨_, plain_VR _ (hp _ _ _ _), ?_⟩
      rcases nil_or h1 with ⟨rfl, rfl⟩ | ⟨a, n, c, rfl⟩
      · simp only [VR] at hx; subst hx
        rcases nil_or h2 with ⟨rfl, rfl⟩ | ⟨b, m, d, rfl⟩
        · simp only [VR] at hy; subst hy
          exact calls_ro (ρ := rowsRen []) (hNN _ _ e5) (hp _ _ _ _) (by simp [VRL, VR]) (rows_rep (rs := []) rfl (by simp) (by simp) (by simp)) (fun _ => rfl)
        · obtain ⟨hvn, q, hrow⟩ := view_rows hr hy h2 e3 e4
          rw [hvn] at e5 ⊢
          refine calls_ro (ρ := rowsRenW [q] (fun _ => k)) (hNS _ m (v.fun k) e5) (hp _ _ _ _) (by simp only [VRL]; exact ⟨_, _, by simp [VR], ⟨y', _, VR_sls (slW_VR hrow (by simp)), rfl, rfl⟩, rfl⟩)
            (rowsW_rep (l := [q]) (rs := [(k, v.fun k, m)]) rfl (by simp) (by
              intro i z hz
              rcases i with _ | i
              · simp at hz; exact hrow.low z hz
              · simp at hz) (by
              intro i k2 g2 n2 h0
              rcases i with _ | i
              · simp at h0; obtain ⟨rfl, rfl, rfl⟩ := h0
                refine ⟨rfl, fun e j he hj => ⟨hrow.one e j he hj, ?_⟩⟩
                obtain ⟨z, h3, h4⟩ := hrow.cell e j he hj
                exact ⟨z, by simp [h3], h4⟩
              · simp at h0)) (fun _ => rfl)
      · obtain ⟨hun, p, hrow⟩ := view_rows hr hx h1 e1 e2
        rcases nil_or h2 with ⟨rfl, rfl⟩ | ⟨b, m, d, rfl⟩
        · simp only [VR] at hy; subst hy
          rw [hun] at e5 ⊢
          refine calls_ro (ρ := rowsRenW [p] (fun _ => k)) (hSN n (u.fun k) _ e5) (hp _ _ _ _) (by simp only [VRL]; exact ⟨x', _, VR_sls (slW_VR hrow (by simp)), ⟨_, _, by simp [VR], rfl, rfl⟩, rfl⟩)
            (rowsW_rep (l := [p]) (rs := [(k, u.fun k, n)]) rfl (by simp) (by
              intro i z hz
              rcases i with _ | i
              · simp at hz; exact hrow.low z hz
              · simp at hz) (by
              intro i k2 g2 n2 h0
              rcases i with _ | i
              · simp at h0; obtain ⟨rfl, rfl, rfl⟩ := h0
                refine ⟨rfl, fun e j he hj => ⟨hrow.one e j he hj, ?_⟩⟩
                obtain ⟨z, h3, h4⟩ := hrow.cell e j he hj
                exact ⟨z, by simp [h3], h4⟩
              · simp at h0)) (fun _ => rfl)
        · obtain ⟨hvn, q, hrow2⟩ := view_rows hr hy h2 e3 e4
          rw [hun, hvn] at e5 ⊢
          refine calls_ro (ρ := rowsRenW [p, q] (fun _ => k)) (hSS n (u.fun k) m (v.fun k) e5) (hp _ _ _ _) (by simp only [VRL]; exact ⟨x', _, VR_sls (slW_VR hrow (by simp)), ⟨y', _, VR_sls (slW_VR hrow2 (by simp)), rfl, rfl⟩, rfl⟩)
            (rowsW_rep (l := [p, q]) (rs := [(k, u.fun k, n), (k, v.fun k, m)]) rfl (by simp) (by
              intro i z hz
              rcases i with _ | _ | i
              · simp at hz; exact hrow.low z hz
              · simp at hz; exact hrow2.low z hz
              · simp at hz) (by
              intro i k2 g2 n2 h0
              rcases i with _ | _ | i
              · simp at h0; obtain ⟨rfl, rfl, rfl⟩ := h0
                refine ⟨rfl, fun e j he hj => ⟨hrow.one e j he hj, ?_⟩⟩
                obtain ⟨z, h3, h4⟩ := hrow.cell e j he hj
                exact ⟨z, by simp [h3], h4⟩
              · simp at h0; obtain ⟨rfl, rfl, rfl⟩ := h0
                refine ⟨rfl, fun e j he hj => ⟨hrow2.one e j he hj, ?_⟩⟩
                obtain ⟨z, h3, h4⟩ := hrow2.cell e j he hj
                exact ⟨z, by simp [h3], h4⟩
              · simp at h0)) (fun _ => rfl)
    · exact trivial
  · exact trivial
end
end Go.Proofs.Ytobdoejkioenhaa
namespace Go.Proofs.Ytobdoejkioenhaa
open Go Go.Ly Go.RowKit
theorem rep_args2 {ρ : Ly.Ren} {w : World} {k n m : Nat} {g g' h h' : Nat → Nat → Value} (he : ∀ e j, e < n → j < k → g e j = g' e j) (hh : ∀ e j, e < m → j < k → h e j = h' e j)
    (hr : Rep ρ (mkH [some (.arg k g n), some (.arg k h m)]) w) : Rep ρ (mkH [some (.arg k g' n), some (.arg k h' m)]) w := by
  have hget : ∀ (g h : Nat → Nat → Value) i, (mkH [some (.arg k g n), some (.arg k h m)]).get i = if i = 0 then some (.arg k g n) else if i = 1 then some (.arg k h m) else none := by
    intro g h i
    rw [mkH_get _ (by simp [big])]
    rcases i with _ | _ | i <;> simp
  refine ⟨hr.small, hr.dom, fun i j b o hi ho => ?_, fun i o ho => ?_, fun i o ho hown => ?_, fun i k2 g2 n2 ho => ?_, hr.fix⟩
  · rw [hget] at hi; split at hi
    · simp only [Option.some.injEq] at hi; subst hi; simp [LO.own] at ho
    · split at hi
      · simp only [Option.some.injEq] at hi; subst hi; simp [LO.own] at ho
      · cases hi
  · rw [hget] at ho; split at ho
    · rename_i e; subst e; show 0 < 2; omega
    · split at ho
      · rename_i e; subst e; show 1 < 2; omega
      · cases ho
  · rw [hget] at ho; split at ho
    · simp only [Option.some.injEq] at ho; subst ho; simp [LO.own] at hown
    · split at ho
      · simp only [Option.some.injEq] at ho; subst ho; simp [LO.own] at hown
      · cases ho
  · rw [hget] at ho; split at ho
    · rename_i e; subst e
      simp only [Option.some.injEq, LO.arg.injEq] at ho
      obtain ⟨rfl, rfl, rfl⟩ := ho
      obtain ⟨h1, h2⟩ := hr.arg 0 k g n (by rw [hget]; rfl)
      refine ⟨h1, h2.wd, fun e j h3 h4 => ?_⟩
      rw [← he e j h3 h4]; exact h2.cell e j h3 h4
    · split at ho
      · rename_i e; subst e
        simp only [Option.some.injEq, LO.arg.injEq] at ho
        obtain ⟨rfl, rfl, rfl⟩ := ho
        obtain ⟨h1, h2⟩ := hr.arg 1 k h m (by rw [hget]; rfl)
        refine ⟨h1, h2.wd, fun e j h3 h4 => ?_⟩
        rw [← hh e j h3 h4]; exact h2.cell e j h3 h4
      · cases ho
section
variable {nm nm2 : Nat → ByteArray} {ns hs ns2 hs2 : Nat → Int}
def saA (nm nm2 : Nat → ByteArray) (ns hs ns2 hs2 : Nat → Int) (n : Nat) : Bool := (List.range n).all fun e => saB nm nm2 ns hs ns2 hs2 e
theorem plain_sa {n m : Nat} : ∀ o ∈ saO (symF nm ns hs) (symF nm2 ns2 hs2) n m, ∀ x, o = some x → plainO x := by
  intro o ho x hx
  simp only [saO, List.mem_cons, List.not_mem_nil, or_false] at ho
  rcases ho with rfl | rfl <;> (simp only [Option.some.injEq] at hx; subst hx)
  · exact noBlk_symF nm ns hs
  · exact noBlk_symF nm2 ns2 hs2
theorem sa_loop {n : Nat} (hn : n ≤ 1000000) : ∀ (d i : Nat), i ≤ n → n - i = d → (∀ e, e < i → saB nm nm2 ns hs ns2 hs2 e = true) →
    MWp Try.prog (mkSt Try.f13 saK none 2 (saV n n (i : Int)) (saO (symF nm ns hs) (symF nm2 ns2 hs2) n n)) (fun v _ => v = .bool (saA nm nm2 ns hs ns2 hs2 n))
  | 0, i, h1, hd, he => by
    have hi : i = n := by omega
    refine MWp.out ctxS_ok 200 _ (saT _ _ n n i) (by simp [trusted]; omega) ?_
    intro _; rw [show saA nm nm2 ns hs ns2 hs2 n = true from List.all_eq_true.2 fun e h => he e (by have := List.mem_range.1 h; omega)]
  | d + 1, i, h1, hd, he => by
    have hi : i < n := by omega
    have hz : 0 + (i : Int).toNat = i := by omega
    have hi2 : decide ((i : Int) < (n : Int)) = true := decide_eq_true (by omega)
    have hi3 : (decide (0 ≤ (i : Int)) && decide ((i : Int) < (n : Int))) = true := by simp; omega
    have hi4 : Nat.blt (0 + (i : Int).toNat) n = true := by rw [hz, Nat.blt_eq]; exact hi
    have hw : IntKind.i64.wrap ((i : Int) + 1) = ((i + 1 : Nat) : Int) := by rw [IntKind.wrap_i64]; omega
    cases hb : saB nm nm2 ns hs ns2 hs2 i with
    | true =>
      refine MWp.head ctxS_ok _ _ _ _ (sa1 nm nm2 ns hs ns2 hs2 n n i) ⟨hi2, hi3, hi4, hi3, hi4, (by rw [hz, hb]; rfl), trivial⟩ plain_sa ?_
      rw [hw]
      refine sa_loop hn d (i + 1) (by omega) (by omega) (fun e h => ?_)
      by_cases hei : e = i
      · rw [hei]; exact hb
      · exact he e (by omega)
    | false =>
      refine MWp.out ctxS_ok 200 _ (sa2 nm nm2 ns hs ns2 hs2 n n i) ⟨hi2, hi3, hi4, hi3, hi4, (by rw [hz, hb]; rfl), trivial⟩ ?_
      intro _
      have : saA nm nm2 ns hs ns2 hs2 n = false := by
        cases e : saA nm nm2 ns hs ns2 hs2 n with
        | false => rfl
        | true => rw [List.all_eq_true.1 e i (List.mem_range.2 hi)] at hb; cases hb
      rw [this]
theorem gSa : ctxS.fn.get 13 = some Try.f13 := by kernel_rfl
theorem sa_calls {n m : Nat} (hn : n ≤ 1000000) : LCalls Try.prog 13 [sls 0 n, sls 1 m] (mkH (saO (symF nm ns hs) (symF nm2 ns2 hs2) n m)) (fun u _ => u = .bool (Nat.beq n m && saA nm nm2 ns hs ns2 hs2 n)) := by
  refine LCalls_of ctxS_ok gSa (by kernel_rfl) ?_
  by_cases h : n = m
  · subst h
    refine MWp.head ctxS_ok _ _ _ _ (sa0 _ _ n n) (by simp [trusted]) plain_sa ?_
    refine (sa_loop hn _ 0 (by omega) rfl (fun e h => by omega)).mono ?_
    rintro v K rfl
    rw [Nat.beq_refl, Bool.true_and]
  · refine MWp.out ctxS_ok 200 _ (saN _ _ n m) (by simp [trusted]; omega) ?_
    intro _
    rw [show Nat.beq n m = false from Bool.eq_false_iff.2 fun e => h (Nat.eq_of_beq_eq_true e)]; rfl
end
def sameV (n : Nat) (G : Nat → Nat → Value) (m : Nat) (G' : Nat → Nat → Value) : Bool := Nat.beq n m && saA (fun e => strAt (G e 0)) (fun e => strAt (G' e 0)) (fun e => numOf (G e 1)) (fun e => numOf (G e 2)) (fun e => numOf (G' e 1)) (fun e => numOf (G' e 2)) n
def sameMk (n : Nat) (G : Nat → Nat → Value) (m : Nat) (G' : Nat → Nat → Value) : Bool × Value := (propB (isSym G n ∧ isSym G' m), .bool (sameV n G m G'))
def sameE : Heap → List Value → ER := rowsC2 3 sameMk
theorem same_con (args : List Value) (ρ : Ly.Ren) (args' : List Value) (w : World) (H : Heap) (ha : VRL ρ args args') (hr : Rep ρ H w) : ConGood Try.prog ρ 13 args' w (sameE H args) := by
  refine rowsC2_good (fun n G m G' => rfl) (fun n G m G' h => ?_) (fun G m G' h => ?_) (fun n G G' h => ?_) (fun G G' h => ?_) args ρ args' w H ha hr
  · obtain ⟨h1, h2⟩ := propB_iff.1 h
    intro ρ args' w ha hr
    exact sa_calls h1.1 ρ args' w ha (rep_args2 (asSym_eq h1) (asSym_eq h2) hr)
  · by_cases hm : m = 0
    · subst hm
      exact LCalls_trust ctxS_ok 200 _ gSa (by kernel_rfl) (saZ1 G' 0 false) (by simp [trusted])
    · have : sameV 0 G m G' = false := by
        unfold sameV
        rw [show Nat.beq 0 m = false from Bool.eq_false_iff.2 fun e => hm (Nat.eq_of_beq_eq_true e).symm]; rfl
      show LCalls _ _ _ _ (fun u _ => u = .bool (sameV 0 G m G'))
      rw [this]
      exact LCalls_trust ctxS_ok 200 _ gSa (by kernel_rfl) (saZ1 G' m true) (by simp [trusted]; omega)
  · by_cases hm : n = 0
    · subst hm
      exact LCalls_trust (v := .bool true) ctxS_ok 200 [] gSa (by kernel_rfl) (t := []) (saZ4 G) trivial
    · have : sameV n G 0 G' = false := by
        unfold sameV
        rw [show Nat.beq n 0 = false from Bool.eq_false_iff.2 fun e => hm (Nat.eq_of_beq_eq_true e)]; rfl
      show LCalls _ _ _ _ (fun u _ => u = .bool (sameV n G 0 G'))
      rw [this]
      exact LCalls_trust ctxS_ok 200 _ gSa (by kernel_rfl) (saZ2 G n) (by simp [trusted]; omega)
  · exact LCalls_trust (v := .bool true) ctxS_ok 200 [] gSa (by kernel_rfl) (t := []) saZ3 trivial
def liB (n : Nat) (nm : Nat → ByteArray) : Bool := decide (n ≤ 60) && (List.range n).all fun e => decide ((nm e).size ≤ 100)
def isOp (G : Nat → Nat → Value) (n : Nat) : Prop := n ≤ 9223372036854775807 ∧ ∀ e, e < n → ∃ k s a b, G e 0 = .int .i64 k ∧ G e 1 = .string s ∧ G e 2 = .int .u16 a ∧ G e 3 = .int .i64 b
def asOp (G : Nat → Nat → Value) : Nat → Nat → Value := opF (fun e => numOf (G e 0)) (fun e => strAt (G e 1)) (fun e => numOf (G e 2)) (fun e => numOf (G e 3))
theorem asOp_eq {G : Nat → Nat → Value} {n : Nat} (h : isOp G n) : ∀ e j, e < n → j < 4 → G e j = asOp G e j := by
  intro e j he hj
  obtain ⟨k, s, a, b, h0, h1, h2, h3⟩ := h.2 e he
  have : j = 0 ∨ j = 1 ∨ j = 2 ∨ j = 3 := by omega
  rcases this with rfl | rfl | rfl | rfl <;> simp [asOp, opF, strAt, numOf, h0, h1, h2, h3]
section
variable {kd ns hs : Nat → Int} {nm : Nat → ByteArray}
theorem plain_li {n : Nat} : ∀ o ∈ [some (LO.arg 4 (opF kd nm ns hs) n)], ∀ x, o = some x → plainO x := by
  intro o ho x hx
  simp only [List.mem_cons, List.not_mem_nil, or_false] at ho
  subst ho
  simp only [Option.some.injEq] at hx; subst hx
  intro e j
  rcases j with _ | _ | _ | _ | j <;> simp [opF, noBlk, blks, undef, blksL]
theorem li_loop {n : Nat} (hn : n ≤ 60) : ∀ (d i : Nat), i ≤ n → n - i = d → (∀ e, e < i → (nm e).size ≤ 100) →
    MWp Try.prog (mkSt Try.f11 liK none 1 (liV n (i : Int)) [some (.arg 4 (opF kd nm ns hs) n)]) (fun v _ => v = .bool (liB n nm))
  | 0, i, h1, hd, he => by
    have hi : i = n := by omega
    refine MWp.out ctxS_ok 200 _ (liT _ n i) (by simp [trusted]; omega) ?_
    intro _
    unfold liB
    rw [decide_eq_true hn, show ((List.range n).all fun e => decide ((nm e).size ≤ 100)) = true from List.all_eq_true.2 fun e h => decide_eq_true (he e (by have := List.mem_range.1 h; omega))]; rfl
  | d + 1, i, h1, hd, he => by
    have hi : i < n := by omega
    have hz : 0 + (i : Int).toNat = i := by omega
    have hi2 : decide ((i : Int) < (n : Int)) = true := decide_eq_true (by omega)
    have hi3 : (decide (0 ≤ (i : Int)) && decide ((i : Int) < (n : Int))) = true := by simp; omega
    have hi4 : Nat.blt (0 + (i : Int).toNat) n = true := by rw [hz, Nat.blt_eq]; exact hi
    have hw : IntKind.i64.wrap ((i : Int) + 1) = ((i + 1 : Nat) : Int) := by rw [IntKind.wrap_i64]; omega
    by_cases hb : (nm i).size ≤ 100
    · refine MWp.head ctxS_ok _ _ _ _ (li1 kd nm ns hs n i) ⟨hi2, hi3, hi4, (by rw [hz]; exact decide_eq_false (by omega)), trivial⟩ plain_li ?_
      rw [hw]
      refine li_loop hn d (i + 1) (by omega) (by omega) (fun e h => ?_)
      by_cases hei : e = i
      · rw [hei]; exact hb
      · exact he e (by omega)
    · refine MWp.out ctxS_ok 200 _ (li2 kd nm ns hs n i) ⟨hi2, hi3, hi4, (by rw [hz]; exact decide_eq_true (by omega)), trivial⟩ ?_
      intro _
      have : liB n nm = false := by
        cases e : liB n nm with
        | false => rfl
        | true =>
          unfold liB at e
          rw [Bool.and_eq_true] at e
          exact absurd (of_decide_eq_true (List.all_eq_true.1 e.2 i (List.mem_range.2 hi))) hb
      rw [this]
theorem gLi : ctxS.fn.get 11 = some Try.f11 := by kernel_rfl
theorem li_calls {n : Nat} : LCalls Try.prog 11 [sls 0 n] (mkH [some (.arg 4 (opF kd nm ns hs) n)]) (fun u _ => u = .bool (liB n nm)) := by
  refine LCalls_of ctxS_ok gLi (by kernel_rfl) ?_
  by_cases h : n ≤ 60
  · refine MWp.head ctxS_ok _ _ _ _ (li0 _ n) (by simp [trusted]; omega) plain_li ?_
    exact li_loop h _ 0 (by omega) rfl (fun e h => by omega)
  · refine MWp.out ctxS_ok 200 _ (liN _ n) (by simp [trusted]; omega) ?_
    intro _
    unfold liB
    rw [decide_eq_false h]; rfl
end
def lightMk (n : Nat) (G : Nat → Nat → Value) (r : List Value) : Bool × Value := (match r with | [] => propB (isOp G n) | _ => false, .bool (liB n fun e => strAt (G e 1)))
def lightE : Heap → List Value → ER := rowsC 4 lightMk
theorem light_con (args : List Value) (ρ : Ly.Ren) (args' : List Value) (w : World) (H : Heap) (ha : VRL ρ args args') (hr : Rep ρ H w) : ConGood Try.prog ρ 11 args' w (lightE H args) := by
  refine rowsC_good (fun n G r => rfl) (fun n G r hp hg => ?_) (fun G r hp hg => ?_) args ρ args' w H ha hr
  · cases r with
    | cons _ _ => cases hg
    | nil => exact LCalls.argEq (asOp_eq (propB_iff.1 hg)) li_calls
  · cases r with
    | cons _ _ => cases hg
    | nil => exact LCalls_trust (v := .bool true) ctxS_ok 200 [] gLi (by kernel_rfl) (t := []) liZ trivial
end Go.Proofs.Ytobdoejkioenhaa
namespace Go.Proofs.Ytobdoejkioenhaa
open Go Go.Ly Go.RowKit
def putK (t : Tb) (s : ByteArray) (h : Int) : Int := bif !nameB s || !strEq (upS s) s then 2 else bif decide (h < 1) || decide (3 < h) then 1 else bif t.has s then (bif (h != 3) || (t.h s != 3) then 4 else 0) else bif decide (2048 ≤ (t.sz : Int)) then 11 else 0
def putU (t : Tb) (s : ByteArray) (n h : Int) : Tb := { has := updS t.has s, n := fun x => bif strEq x s then n else t.n x, h := fun x => bif strEq x s then h else t.h x, sz := bif t.has s then t.sz else t.sz + 1 }
def putT (t : Tb) (s : ByteArray) (n h : Int) : Tb := bif putK t s h == 0 then putU t s n h else t
def ptS (t : Tb) (s : ByteArray) (n h : Int) : St := Ly.start Try.f9 [ptr 1, .string s, .int .u16 n, .int .i64 h] (mkH (alO t))
section
variable (t : Tb) (s : ByteArray) (n h : Int)
theorem ptA (b : Bool) : endsAt [0, 1] (Ly.run ctxC 400 [(1, b), (1, true), (0, true)] (ptS t s n h)) = some ([(t.has s, b), (!nameB s, true), (!nameB s, true)], .int .i64 2, 3, alO t) := by cases b <;> kernel_rfl
theorem ptB (b : Bool) : endsAt [0, 1] (Ly.run ctxC 400 [(1, b), (1, false), (0, true), (0, true)] (ptS t s n h)) = some ([(t.has s, b), (!nameB s, false), (s.size.ble 4611686018427387904, true), (!strEq (upS s) s, true)], .int .i64 2, 3, alO t) := by cases b <;> kernel_rfl
theorem ptC (b : Bool) : endsAt [0, 1] (Ly.run ctxC 400 [(1, b), (1, false), (0, true), (0, false), (0, true), (0, true)] (ptS t s n h)) = some ([(t.has s, b), (!nameB s, false), (s.size.ble 4611686018427387904, true), (!strEq (upS s) s, false), (decide (h < 1), true), (decide (h < 1), true)], .int .i64 1, 3, alO t) := by cases b <;> kernel_rfl
theorem ptD (b : Bool) : endsAt [0, 1] (Ly.run ctxC 400 [(1, b), (1, false), (0, true), (0, false), (0, false), (0, true)] (ptS t s n h)) = some ([(t.has s, b), (!nameB s, false), (s.size.ble 4611686018427387904, true), (!strEq (upS s) s, false), (decide (h < 1), false), (decide (3 < h), true)], .int .i64 1, 3, alO t) := by cases b <;> kernel_rfl
theorem ptE : endsAt [0, 1] (Ly.run ctxC 400 [(1, true), (1, false), (0, true), (0, false), (0, false), (0, false), (3, false)] (ptS t s n h)) = some ([(t.has s, true), (!nameB s, false), (s.size.ble 4611686018427387904, true), (!strEq (upS s) s, false), (decide (h < 1), false), (decide (3 < h), false), ((h != 3) == false, false)], .int .i64 4, 3, alO t) := by kernel_rfl
theorem ptF : endsAt [0, 1] (Ly.run ctxC 400 [(1, true), (1, false), (0, true), (0, false), (0, false), (0, false), (3, true), (5, true)] (ptS t s n h)) = some ([(t.has s, true), (!nameB s, false), (s.size.ble 4611686018427387904, true), (!strEq (upS s) s, false), (decide (h < 1), false), (decide (3 < h), false), ((h != 3) == false, true), (t.h s != 3, true)], .int .i64 4, 3, alO t) := by kernel_rfl
theorem ptG : endsAt [0, 1] (Ly.run ctxC 400 [(1, true), (1, false), (0, true), (0, false), (0, false), (0, false), (3, true), (5, false), (8, true)] (ptS t s n h)) = some ([(t.has s, true), (!nameB s, false), (s.size.ble 4611686018427387904, true), (!strEq (upS s) s, false), (decide (h < 1), false), (decide (3 < h), false), ((h != 3) == false, true), (t.h s != 3, false), (t.has s, true)], .int .i64 0, 3, [some (.mp (updM (fun s => symV s (t.n s) (t.h s)) s (symV s n h)) t.has t.sz), some (.cells [.map (some 0)] 54)]) := by kernel_rfl
theorem ptH : endsAt [0, 1] (Ly.run ctxC 400 [(1, false), (1, false), (0, true), (0, false), (0, false), (0, false), (13, true)] (ptS t s n h)) = some ([(t.has s, false), (!nameB s, false), (s.size.ble 4611686018427387904, true), (!strEq (upS s) s, false), (decide (h < 1), false), (decide (3 < h), false), (decide (2048 ≤ (t.sz : Int)), true)], .int .i64 11, 3, alO t) := by kernel_rfl
theorem ptI : endsAt [0, 1] (Ly.run ctxC 400 [(1, false), (1, false), (0, true), (0, false), (0, false), (0, false), (13, false), (0, false)] (ptS t s n h)) = some ([(t.has s, false), (!nameB s, false), (s.size.ble 4611686018427387904, true), (!strEq (upS s) s, false), (decide (h < 1), false), (decide (3 < h), false), (decide (2048 ≤ (t.sz : Int)), false), (t.has s, false)], .int .i64 0, 3, [some (.mp (updM (fun s => symV s (t.n s) (t.h s)) s (symV s n h)) (updS t.has s) (t.sz + 1)), some (.cells [.map (some 0)] 54)]) := by kernel_rfl
theorem tail_eq {t : Tb} {s : ByteArray} {n h : Int} : LO.mp (updM (fun s => symV s (t.n s) (t.h s)) s (symV s n h)) (updS t.has s) (bif t.has s then t.sz else t.sz + 1) = mpOf (putU t s n h) := by
  unfold mpOf putU
  have e1 : updM (fun s => symV s (t.n s) (t.h s)) s (symV s n h) = fun x => symV x (bif strEq x s then n else t.n x) (bif strEq x s then h else t.h x) := by
    funext x
    by_cases hs : x = s
    · subst hs; rw [updM_self, strEq_self]; rfl
    · rw [updM_ne hs, strEq_ne hs]; rfl
  rw [e1]; rfl
theorem upS_has {t : Tb} {s : ByteArray} (hh : t.has s = true) : updS t.has s = t.has := by
  funext x
  by_cases hs : x = s
  · subst hs; rw [updS_self, hh]
  · rw [updS_ne hs]
end
theorem gPt : ctxC.fn.get 9 = some Try.f9 := by kernel_rfl
def putQ (t : Tb) (s : ByteArray) (n h : Int) : Value → Heap → Prop := fun u K => u = .int .i64 (putK t s h) ∧ K.next = 3 ∧ K.get 0 = some (mpOf (putT t s n h)) ∧ K.get 1 = some (.cells [.map (some 0)] 54) ∧ K.lock = 0
theorem pt_end {t : Tb} {s : ByteArray} {n h k : Int} {p : Path} {te : List (Bool × Bool)} {os : List (Option LO)} (he : endsAt [0, 1] (Ly.run ctxC 400 p (ptS t s n h)) = some (te, .int .i64 k, 3, os)) (ht : trusted te)
    (hk : putK t s h = k) (ho : os = [some (mpOf (putT t s n h)), some (.cells [.map (some 0)] 54)]) : MWp Try.prog (ptS t s n h) (putQ t s n h) := by
  refine (MWp.ends ctxC_ok 400 p he ht).mono ?_
  rintro u K ⟨rfl, h1, h2, h3⟩
  rw [ho] at h2
  simp only [List.map_cons, List.map_nil, List.cons.injEq, and_true] at h2
  exact ⟨by rw [hk], h1, h2.1, h2.2, h3⟩
theorem putT_no {t : Tb} {s : ByteArray} {n h k : Int} (hk : putK t s h = k) (h0 : (k == 0) = false) : putT t s n h = t := by unfold putT; rw [hk, h0]; rfl
theorem putT_yes {t : Tb} {s : ByteArray} {n h : Int} (hk : putK t s h = 0) : putT t s n h = putU t s n h := by unfold putT; rw [hk]; rfl
theorem pt_calls {t : Tb} {s : ByteArray} {n h : Int} (hs : s.size ≤ 1000000) : LCalls Try.prog 9 [ptr 1, .string s, .int .u16 n, .int .i64 h] (mkH (alO t)) (putQ t s n h) := by
  refine LCalls_of ctxC_ok gPt (by kernel_rfl) ?_
  show MWp Try.prog (ptS t s n h) _
  have l2 : Nat.ble s.size 4611686018427387904 = true := Nat.ble_eq_true_of_le (by omega)
  have no : ∀ {k : Int}, putK t s h = k → (k == 0) = false → alO t = [some (mpOf (putT t s n h)), some (.cells [.map (some 0)] 54)] := fun h1 h2 => by rw [putT_no h1 h2]; rfl
  cases hb : nameB s with
  | false =>
    have e : putK t s h = 2 := by unfold putK; rw [hb]; rfl
    exact pt_end (ptA t s n h (t.has s)) (by simp [trusted, hb]) e (no e rfl)
  | true =>
  cases hu : strEq (upS s) s with
  | false =>
    have e : putK t s h = 2 := by unfold putK; rw [hb, hu]; rfl
    exact pt_end (ptB t s n h (t.has s)) (by simp only [trusted, hb, hu, l2]; decide) e (no e rfl)
  | true =>
  by_cases g1 : h < 1
  · have e : putK t s h = 1 := by unfold putK; rw [hb, hu, decide_eq_true g1]; rfl
    exact pt_end (ptC t s n h (t.has s)) (by simp only [trusted, hb, hu, l2, decide_eq_true g1]; decide) e (no e rfl)
  by_cases g3 : 3 < h
  · have e : putK t s h = 1 := by unfold putK; rw [hb, hu, decide_eq_true g3, decide_eq_false g1]; rfl
    exact pt_end (ptD t s n h (t.has s)) (by simp only [trusted, hb, hu, l2, decide_eq_false g1, decide_eq_true g3]; decide) e (no e rfl)
  have hK : putK t s h = bif t.has s then (bif (h != 3) || (t.h s != 3) then 4 else 0) else bif decide (2048 ≤ (t.sz : Int)) then 11 else 0 := by
    unfold putK; rw [hb, hu, decide_eq_false g1, decide_eq_false g3]; rfl
  cases hh : t.has s with
  | true =>
    rw [hh, cond_true] at hK
    cases h3 : (h != 3) with
    | true =>
      have e : putK t s h = 4 := by rw [hK, h3]; rfl
      exact pt_end (ptE t s n h) (by simp only [trusted, hb, hu, l2, decide_eq_false g1, decide_eq_false g3, hh, h3]; decide) e (no e rfl)
    | false =>
    cases h4 : (t.h s != 3) with
    | true =>
      have e : putK t s h = 4 := by rw [hK, h3, h4]; rfl
      exact pt_end (ptF t s n h) (by simp only [trusted, hb, hu, l2, decide_eq_false g1, decide_eq_false g3, hh, h3, h4]; decide) e (no e rfl)
    | false =>
      have e : putK t s h = 0 := by rw [hK, h3, h4]; rfl
      refine pt_end (ptG t s n h) (by simp only [trusted, hb, hu, l2, decide_eq_false g1, decide_eq_false g3, hh, h3, h4]; decide) e ?_
      rw [putT_yes e, ← tail_eq, upS_has hh, hh]; rfl
  | false =>
    rw [hh, cond_false] at hK
    by_cases h5 : (2048 : Int) ≤ (t.sz : Int)
    · have e : putK t s h = 11 := by rw [hK, decide_eq_true h5]; rfl
      exact pt_end (ptH t s n h) (by simp only [trusted, hb, hu, l2, decide_eq_false g1, decide_eq_false g3, hh, decide_eq_true h5]; decide) e (no e rfl)
    · have e : putK t s h = 0 := by rw [hK, decide_eq_false h5]; rfl
      refine pt_end (ptI t s n h) (by simp only [trusted, hb, hu, l2, decide_eq_false g1, decide_eq_false g3, hh, decide_eq_false h5]; decide) e ?_
      rw [putT_yes e, ← tail_eq, hh]; rfl
end Go.Proofs.Ytobdoejkioenhaa
namespace Go.Proofs.Ytobdoejkioenhaa
open Go Go.Ly Go.RowKit
def plainR : List Value → Prop
  | [] => True
  | v :: r => (∀ f : Nat → Nat, renV f v = v) ∧ plainR r
theorem plainR_ren {l : List Value} (h : plainR l) (f : Nat → Nat) : renL f l = l := by
  induction l with
  | nil => rfl
  | cons v r ih => show renV f v :: renL f r = _; rw [h.1 f, ih h.2]
def setT (H : Heap) (r : Nat) (t : Tb) : Heap := { m := H.m.set r (some (mpOf t)), next := H.next + 16, lock := H.lock }
theorem tbl_frame {f : FuncId} {t t' : Tb} {rest : List Value} {v : Value} {H : Heap} {p r : Nat} (hl : H.lock = 0) (hn : H.next + 20 < 2147483000) (hrl : r < H.next) (hpr : p ≠ r) (hp : H.get p = some (.cells [.map (some r)] 54)) (hg : H.get r = some (mpOf t))
    (hrest : plainR rest) (hv : ∀ f : Nat → Nat, renV f v = v)
    (h : LCalls Try.prog f (ptr 1 :: rest) (mkH (alO t)) (fun u K => u = v ∧ 2 ≤ K.next ∧ K.next ≤ 18 ∧ K.get 0 = some (mpOf t') ∧ K.get 1 = some (.cells [.map (some 0)] 54) ∧ K.lock = 0)) :
    LCalls Try.prog f (.pointer (some ⟨p, 0, none⟩) :: rest) H (fun u K => u = v ∧ K = setT H r t') := by
  let σ : Nat → Nat := fun i => if i = 0 then r else p
  have hnext : (mkH (alO t)).next = 2 := rfl
  have e0 : ext σ 2 H.next 0 = r := by rw [ext_lt (by omega)]; rfl
  have e1 : ext σ 2 H.next 1 = p := by rw [ext_lt (by omega)]; rfl
  have hs0 : (mkH (alO t)).get 0 = some (mpOf t) := by kernel_rfl
  have hs1 : (mkH (alO t)).get 1 = some (.cells [.map (some 0)] 54) := by kernel_rfl
  have hsd : ∀ i o, (mkH (alO t)).get i = some o → i < 2 := fun i o h => by
    rcases Nat.lt_or_ge i 2 with h1 | h1
    · exact h1
    · rw [mkH_get _ (by show 2 < big; unfold big; omega), List.getElem?_eq_none (by exact h1)] at h; cases h
  have hfit : Fits σ (mkH (alO t)) H := by
    refine ⟨by rw [hnext]; unfold big; omega, hl, fun i hi => ?_, fun i o h => by rw [hnext]; exact hsd i o h, fun i o h => ?_, fun i j hi hj h => ?_⟩
    · rw [hnext] at hi
      have : i = 0 ∨ i = 1 := by omega
      rcases this with rfl | rfl
      · exact ⟨_, hs0⟩
      · exact ⟨_, hs1⟩
    · rw [hnext]
      have := hsd i o h
      have : i = 0 ∨ i = 1 := by omega
      rcases this with rfl | rfl
      · rw [hs0] at h; obtain rfl := Option.some.inj h
        exact hg
      · rw [hs1] at h; obtain rfl := Option.some.inj h
        show H.get p = some (renO _ (.cells [.map (some 0)] 54))
        rw [hp]
        simp only [renO, renL, renV, e0]
    · rw [hnext] at hi hj
      rcases (show i = 0 ∨ i = 1 by omega) with rfl | rfl <;> rcases (show j = 0 ∨ j = 1 by omega) with rfl | rfl
      · rfl
      · exact absurd h.symm hpr
      · exact absurd h hpr
      · rfl
  have hgetK : ∀ k, (setT H r t').get k = if k = r then some (mpOf t') else H.get k := fun k => Tr.get_set _ _ _ (by unfold big; omega) k
  have hargs : renL (ext σ (mkH (alO t)).next H.next) (ptr 1 :: rest) = .pointer (some ⟨p, 0, none⟩) :: rest := by
    rw [hnext]; show renV _ (ptr 1) :: renL _ rest = _
    rw [plainR_ren hrest]; simp only [ptr, renV, e1]
  have hf := LCalls.frame (H := H) (σ := σ) (Q := fun u K => u = v ∧ K = setT H r t') h hfit (by
    rintro vs Hs' ⟨rfl, k0, k1, k2, k3, k4⟩
    refine ⟨_, ⟨k4, by rw [hnext]; omega, by rw [hnext]; show H.next + (Hs'.next - 2) ≤ H.next + 16; omega, by show H.next + 16 < big; unfold big; omega, fun k o ho => ?_⟩, hv _, rfl⟩
    rw [hnext]
    rw [hgetK] at ho
    by_cases er : k = r
    · rw [if_pos er] at ho
      exact .inl ⟨0, _, by rw [e0, er], k2, (Option.some.inj ho).symm⟩
    · rw [if_neg er] at ho
      by_cases ep : k = p
      · subst ep
        rw [hp] at ho
        refine .inl ⟨1, _, e1, k3, ?_⟩
        rw [← Option.some.inj ho]
        simp only [renO, renL, renV, e0]
      · refine .inr ⟨fun i hi => ?_, ho⟩
        rcases (show i = 0 ∨ i = 1 by omega) with rfl | rfl
        · exact fun e => er e.symm
        · exact fun e => ep e.symm)
  rw [hargs] at hf
  exact hf
def putE (H : Heap) (args : List Value) : ER :=
  match args with
  | [.pointer none, .string _, .int .u16 _, .int .i64 _] => .val (.int .i64 14)
  | [.pointer (some ⟨p, 0, none⟩), .string s, .int .u16 n, .int .i64 h] =>
    match H.get p with
    | some (.cells [.map (some r)] 54) =>
      match H.get r with
      | some (.mp g has sz) => bif Nat.beq H.lock 0 && (Nat.blt (H.next + 20) 2147483000 && (Nat.blt r H.next && !(Nat.beq p r))) then
          .tst (propB (s.size ≤ 1000000 ∧ symOk g has sz)) (.mem (.int .i64 (putK (tbOf g has sz) s h)) (setT H r (putT (tbOf g has sz) s n h))) .no else .no
      | _ => .no
    | _ => .no
  | _ => .no
theorem ptNil (s : ByteArray) (n h : Int) : endsAt [] (Ly.run ctxC 400 [] (Ly.start Try.f9 [.pointer none, .string s, .int .u16 n, .int .i64 h] (mkH []))) = some ([], .int .i64 14, 0, []) := by kernel_rfl
theorem nil_val {f : FuncId} {args : List Value} {v : Value} {H : Heap} (hN : LCalls Try.prog f args (mkH []) (fun u _ => u = v)) (hv : plain v) (hv2 : ∀ ρ, VR ρ v v) (ha : ∀ (ρ : Ly.Ren) args', VRL ρ args args' → args' = args) (ha2 : ∀ ρ, VRL ρ args args) :
    HGood Try.prog f args H (.val v) := by
  intro ρ args' w h hr
  haveI := hr.fix.w
  obtain rfl := ha ρ args' h
  refine (calls_ro (ρ := rowsRen []) hN hv (ha2 _) (rows_rep (rs := []) rfl (by simp) (by simp) (by simp)) (fun _ => rfl)).mono ?_
  rintro e w' ⟨rfl, hbl⟩
  exact ⟨ρ, v, _, H, rfl, ⟨rfl, rfl⟩, Ren.le_refl _, Fresh.refl _ _, hv2 ρ, hr.below hbl, Below.toKeep hbl⟩
theorem put_good (H : Heap) (args : List Value) : HGood Try.prog 9 args H (putE H args) := by
  unfold putE
  split
  · rename_i s n h
    refine nil_val (LCalls_of ctxC_ok gPt (by kernel_rfl) ((MWp.ends ctxC_ok 400 _ (ptNil s n h) trivial).mono fun u K h => h.1)) (by simp [plain]) (fun ρ => by simp [VR]) (fun ρ args' h => by simp only [VRL, VR] at h; obtain ⟨_, _, rfl, ⟨_, _, rfl, ⟨_, _, rfl, ⟨_, _, rfl, rfl, rfl⟩, rfl⟩, rfl⟩, rfl⟩ := h; rfl) (fun ρ => by simp [VRL, VR])
  · rename_i p s n h
    split
    · rename_i r hp
      split
      · rename_i g has sz hg
        cases hc : (Nat.beq H.lock 0 && (Nat.blt (H.next + 20) 2147483000 && (Nat.blt r H.next && !(Nat.beq p r)))) with
        | false => exact trivial
        | true =>
        simp only [cond_true]
        simp only [Bool.and_eq_true, Bool.not_eq_true'] at hc
        refine ⟨fun hok => ?_, fun _ => trivial⟩
        obtain ⟨hs, hsy⟩ := propB_iff.1 hok
        have hpr : p ≠ r := fun e => by rw [e, Nat.beq_refl] at hc; cases hc.2.2.2
        refine tbl_frame (t := tbOf g has sz) (t' := putT (tbOf g has sz) s n h) (Nat.eq_of_beq_eq_true hc.1) (by simpa [Nat.blt_eq] using hc.2.1) (by simpa [Nat.blt_eq] using hc.2.2.1) hpr hp (by rw [hg]; exact congrArg some hsy) ⟨fun f => by simp [renV], fun f => by simp [renV], fun f => by simp [renV], trivial⟩ (fun f => by simp [renV]) ?_
        exact (pt_calls hs).mono fun u K h => ⟨h.1, by rw [h.2.1]; omega, by rw [h.2.1]; omega, h.2.2⟩
      · exact trivial
    · exact trivial
  · exact trivial
end Go.Proofs.Ytobdoejkioenhaa
namespace Go.Proofs.Ytobdoejkioenhaa
open Go Go.Ly Go.RowKit
def allZ (H : Heap) (args : List Value) : ER := match args with
  | [.pointer none] => .val (.slice none 0 0)
  | _ => allE H args
theorem alNil : endsAt [] (Ly.run ctxS 400 [] (Ly.start Try.f12 [.pointer none] (mkH []))) = some ([], .slice none 0 0, 0, []) := by kernel_rfl
theorem allZ_good (H : Heap) (args : List Value) : HGood Try.prog 12 args H (allZ H args) := by
  unfold allZ
  split
  · exact nil_val (LCalls_of ctxS_ok gAl (by kernel_rfl) ((MWp.ends ctxS_ok 400 _ alNil trivial).mono fun u K h => h.1)) (by simp [plain]) (fun ρ => by simp [VR]) (fun ρ args' h => by simp only [VRL, VR] at h; obtain ⟨_, _, rfl, rfl, rfl⟩ := h; rfl) (fun ρ => by simp [VRL, VR])
  · exact all_good H args
def aliveC (l : List Value) : Option (Bool × Value) := match l with
  | [] => some (true, .bool true)
  | _ => none
theorem gAv : ctxC.fn.get 7 = some Try.f7 := by kernel_rfl
theorem aliveR : (Ly.run ctxC 20000 [] (Ly.start Try.f7 [] H0)).out? = some ([], .bool true) := by kernel_rfl
theorem alive_ans : Answers Try.prog 7 aliveC := by
  intro args g v h hg
  unfold aliveC at h
  split at h
  · simp only [Option.some.injEq, Prod.mk.injEq] at h
    obtain ⟨rfl, rfl⟩ := h
    exact ⟨rfl, rfl, fun w => calls_trust ctxC_ok 20000 [] gAv (by kernel_rfl) rfl rfl aliveR trivial w⟩
  · cases h
def ctxY0 : Ctx := (((((ctxS.withH 12 allZ).withH 14 backE).withC 13 sameE).withC 11 lightE).withH 9 putE).with 7 aliveC
theorem ctxY0_ok : ctxY0.Ok Try.prog := (((((ctxS_ok.withH allZ_good).withH back_good).withC fun args ρ args' w H ha hr => same_con args ρ args' w H ha hr).withC fun args ρ args' w H ha hr => light_con args ρ args' w H ha hr).withH put_good).with alive_ans
def ctxY : Ctx := (ctxY0.withC 17 (conTree ctxC 400 17)).withC 19 (conTree ctxC 400 19)
theorem ctxY_ok : ctxY.Ok Try.prog := (ctxY0_ok.byCon ctxC_ok 400 17).byCon ctxC_ok 400 19
end Go.Proofs.Ytobdoejkioenhaa
namespace Go.Proofs.Ytobdoejkioenhaa
open Go Go.Ly Go.RowKit
def t0 : LO := .mp (fun _ => undef) (fun _ => false) 0
def lgT (kd : Nat → Int) (nm : Nat → ByteArray) (ns hs : Nat → Int) (n : Nat) : Bool := Nat.ble (0 + n) n && (true && (true && propB (isOp (fun e j => opF kd nm ns hs (0 + e) j) n)))
def qA (t : Tb) : Bool := propB (keyOk t.has t.sz ∧ symOk (fun s => symV s (t.n s) (t.h s)) t.has t.sz)
def pA (t : Tb) (s : ByteArray) : Bool := propB (s.size ≤ 1000000 ∧ symOk (fun s => symV s (t.n s) (t.h s)) t.has t.sz)
def wG (t : Tb) : Nat → Nat → Value := fun e j => symC t (0 + e) j
end Go.Proofs.Ytobdoejkioenhaa
namespace Go.Proofs.Ytobdoejkioenhaa
open Go Go.Ly Go.RowKit
def bB (m : Nat) (j : Int) : List (Bool × Bool) := [(decide (0 ≤ j) && decide (j < (m : Int)), true), (Nat.blt (0 + j.toNat) m, true)]
section
variable (kd : Nat → Int) (nm : Nat → ByteArray) (ns hs : Nat → Int) (n : Nat) (i : Int) (dst : Option Tmp) (t : Tb) (wn : Nat → ByteArray) (wv wh : Nat → Int) (m : Nat) (k j : Int)
end
end Go.Proofs.Ytobdoejkioenhaa
namespace Go.Proofs.Ytobdoejkioenhaa
open Go Go.Ly Go.RowKit
end Go.Proofs.Ytobdoejkioenhaa
namespace Go.Proofs.Ytobdoejkioenhaa
open Go Go.Ly Go.RowKit
end Go.Proofs.Ytobdoejkioenhaa
namespace Go.Proofs.Ytobdoejkioenhaa
open Go Go.Ly Go.RowKit
theorem tr_snoc : ∀ {a b : List (Bool × Bool)}, trusted a → trusted b → trusted (a ++ b)
  | [], _, _, h => h
  | _ :: _, _, h, h' => ⟨h.1, tr_snoc h.2 h'⟩
section
variable {name : ByteArray} {n N how : Int}
end
end Go.Proofs.Ytobdoejkioenhaa
namespace Go.Proofs.Ytobdoejkioenhaa
open Go Go.Ly Go.RowKit
theorem bB_ok {m j : Nat} (h : j < m) : trusted (bB m (j : Int)) := by
  have hz : 0 + (j : Int).toNat = j := by omega
  unfold bB
  rw [hz]
  exact ⟨by simpa using h, by rw [Nat.blt_eq]; exact h, trivial⟩
theorem noBlk_opF (kd : Nat → Int) (nm : Nat → ByteArray) (ns hs : Nat → Int) (e j : Nat) : noBlk (opF kd nm ns hs e j) := by
  rcases j with _ | _ | _ | _ | j <;> simp [opF, noBlk, blks, undef, blksL]
theorem qA_ok {t : Tb} (h : keyOk t.has t.sz) : qA t = true := propB_iff.2 ⟨h, rfl⟩
theorem pA_ok {t : Tb} {s : ByteArray} (h : s.size ≤ 1000000) : pA t s = true := propB_iff.2 ⟨h, rfl⟩
theorem isSym0 : isSym (lstG 3 0 []) 0 := ⟨by omega, fun e h => by omega⟩
theorem isSym_w {t : Tb} {m : Nat} (hm : m ≤ 1000000) : isSym (wG t) m := ⟨hm, fun e _ => ⟨_, _, _, rfl, rfl, rfl⟩⟩
theorem isSym_F {nm : Nat → ByteArray} {ns hs : Nat → Int} {m : Nat} (hm : m ≤ 1000000) : isSym (fun e j => symF nm ns hs (0 + e) j) m := ⟨hm, fun e _ => ⟨_, _, _, rfl, rfl, rfl⟩⟩
theorem saB_self (nm : Nat → ByteArray) (ns hs : Nat → Int) (e : Nat) : saB nm nm ns hs ns hs e = true := by
  unfold saB; rw [strEq_self]; simp
section
variable {kd : Nat → Int} {nm : Nat → ByteArray} {ns hs : Nat → Int} {n : Nat}
theorem put_sz {t : Tb} {s : ByteArray} {v h : Int} : (putT t s v h).sz ≤ t.sz + 1 := by
  unfold putT putU
  cases (putK t s h == 0) <;> cases t.has s <;> simp
theorem put_has {t : Tb} {s : ByteArray} {v h : Int} {x : ByteArray} (hx : (putT t s v h).has x = true) : t.has x = true ∨ x = s := by
  by_cases hs : x = s
  · exact .inr hs
  · left
    unfold putT putU at hx
    cases hk : (putK t s h == 0) with
    | false => rw [hk] at hx; exact hx
    | true => rw [hk, cond_true] at hx; rw [← updS_ne (has := t.has) hs]; exact hx
structure Few (t : Tb) (i : Nat) : Prop where
  sz : t.sz ≤ i
  nm : ∀ s, t.has s = true → s.size ≤ 100
theorem Few.ok {t : Tb} {i : Nat} (h : Few t i) (hi : i ≤ 60) : keyOk t.has t.sz := ⟨by have := h.sz; omega, fun s hs => by have := h.nm s hs; omega⟩
theorem Few.put {t : Tb} {i : Nat} (h : Few t i) {s : ByteArray} {v w : Int} (hs : s.size ≤ 100) : Few (putT t s v w) (i + 1) :=
  ⟨by have := h.sz; have := put_sz (t := t) (s := s) (v := v) (h := w); omega, fun x hx => by rcases put_has hx with h1 | rfl; exact h.nm x h1; exact hs⟩
variable {i : Int} {dst : Option Tmp} {t : Tb} {wn : Nat → ByteArray} {wv wh : Nat → Int} {m : Nat} {k : Int} {Q : Value → Heap → Prop}
end
end Go.Proofs.Ytobdoejkioenhaa
namespace Go.Proofs.Ytobdoejkioenhaa
open Go Go.Ly Go.RowKit
structure OA where
  kd : Nat → Int
  nm : Nat → ByteArray
  ns : Nat → Int
  hs : Nat → Int
  n : Nat
  sa : ByteArray
  va : Int
  ha : Int
  sb : ByteArray
  vb : Int
  hb : Int
def OA.op (q : OA) : Nat → Nat → Value := opF q.kd q.nm q.ns q.hs
def ordS (q : OA) : St := Ly.start Try.f4 [sls 0 q.n, symV q.sa q.va q.ha, symV q.sb q.vb q.hb] (mkH [some (.arg 4 q.op q.n)])
def ornS (q : OA) : St := Ly.start Try.f4 [.slice none 0 0, symV q.sa q.va q.ha, symV q.sb q.vb q.hb] (mkH [])
def ordD : St := Ly.start Try.f4 [] H0
def ordP : Path := [(0, true), (0, true), (4, true), (4, true), (5, false)]
def ornP : Path := [(0, true), (5, true), (4, true), (5, false)]
def q0 : OA := ⟨bkZ, bkN, bkZ, bkZ, 0, bkN 0, 0, 0, bkN 0, 0, 0⟩
def ordK : List KI := ((Ly.run ctxY 84 ordP (ordS q0)).st ordD).top.k
def bS (b : Bool) (n : Nat) : Value := match b with
  | true => sls 0 n
  | false => .slice none 0 0
def bO (b : Bool) (q : OA) : Option LO := match b with
  | true => some (.arg 4 q.op q.n)
  | false => none
def bN (b : Bool) : Nat := match b with
  | true => 1
  | false => 0
def ordV (b : Bool) (n : Nat) (i : Int) : List Value := slots Try.f4.ntmps [(0, bS b n), (4, ptr 1), (5, ptr 2), (7, ptr 4), (8, ptr 6), (9, .int .i64 i)]
def symL2 (s : ByteArray) (v h : Int) : List Value := [.string s, .int .u16 v, .int .i64 h]
def ordO (b : Bool) (q : OA) (t u : LO) : List (Option LO) := [bO b q, some (.cells (symL2 q.sa q.va q.ha) 24), some (.cells (symL2 q.sb q.vb q.hb) 24), some t, some (.cells [.map (some 3)] 54), some u, some (.cells [.map (some 5)] 54)]
def lgQ (q : OA) : Bool := lgT q.kd q.nm q.ns q.hs q.n
def liQ (q : OA) : Bool := liB q.n fun e => q.nm (0 + e)
def ordT (q : OA) : List (Bool × Bool) := [(decide (100 < (q.sa.size : Int)) == false, true), (decide (100 < (q.sb.size : Int)) == false, true), (strEq q.sa q.sb, false)]
def lgN : Bool := true && (true && (true && propB (isOp (lstG 4 0 []) 0)))
theorem ord0 (q : OA) : headAt [0, 4, 5, 7, 8, 9] [0, 1, 2, 3, 4, 5, 6] ordD (Ly.run ctxY 84 ordP (ordS q)) = (true, [(lgQ q, true), ((!(liQ q)) == false, true)] ++ ordT q, true, (Try.f4, ordK, some 40, bN true), ordV true q.n 0, ordO true q t0 t0) := by kernel_rfl
theorem orn0 (q : OA) : headAt [0, 4, 5, 7, 8, 9] [50, 0, 1, 2, 3, 4, 5] ordD (Ly.run ctxY 84 ornP (ornS q)) = (true, [(lgN, true)] ++ ordT q, true, (Try.f4, ordK, some 40, bN false), ordV false q.n 0, ordO false q t0 t0) := by kernel_rfl
theorem ordX1 (q : OA) : (Ly.run ctxY 400 [(0, true), (0, false)] (ordS q)).out? = some ([(lgQ q, true), ((!(liQ q)) == false, false)], .bool true) := by kernel_rfl
theorem ordX2 (q : OA) : (Ly.run ctxY 400 [(0, true), (0, true), (4, false)] (ordS q)).out? = some ([(lgQ q, true), ((!(liQ q)) == false, true), (decide (100 < (q.sa.size : Int)) == false, false)], .bool true) := by kernel_rfl
theorem ordX3 (q : OA) : (Ly.run ctxY 400 [(0, true), (0, true), (4, true), (4, false)] (ordS q)).out? = some ([(lgQ q, true), ((!(liQ q)) == false, true), (decide (100 < (q.sa.size : Int)) == false, true), (decide (100 < (q.sb.size : Int)) == false, false)], .bool true) := by kernel_rfl
theorem ordX4 (q : OA) : (Ly.run ctxY 400 [(0, true), (0, true), (4, true), (4, true), (5, true)] (ordS q)).out? = some ([(lgQ q, true), ((!(liQ q)) == false, true), (decide (100 < (q.sa.size : Int)) == false, true), (decide (100 < (q.sb.size : Int)) == false, true), (strEq q.sa q.sb, true)], .bool true) := by kernel_rfl
theorem ornX2 (q : OA) : (Ly.run ctxY 400 [(0, true), (5, false)] (ornS q)).out? = some ([(lgN, true), (decide (100 < (q.sa.size : Int)) == false, false)], .bool true) := by kernel_rfl
theorem ornX3 (q : OA) : (Ly.run ctxY 400 [(0, true), (5, true), (4, false)] (ornS q)).out? = some ([(lgN, true), (decide (100 < (q.sa.size : Int)) == false, true), (decide (100 < (q.sb.size : Int)) == false, false)], .bool true) := by kernel_rfl
theorem ornX4 (q : OA) : (Ly.run ctxY 400 [(0, true), (5, true), (4, true), (5, true)] (ornS q)).out? = some ([(lgN, true), (decide (100 < (q.sa.size : Int)) == false, true), (decide (100 < (q.sb.size : Int)) == false, true), (strEq q.sa q.sb, true)], .bool true) := by kernel_rfl
def ordH (b : Bool) (q : OA) (i : Int) (dst : Option Tmp) (t : Tb) : St := mkSt Try.f4 ordK dst (bN b) (ordV b q.n i) (ordO b q (mpOf t) (mpOf t))
def ordP2 (b : Bool) : Path := [(0, false), (0, true), (0, true), (0, true), (0, true), (0, true), (0, b)]
def ornP2 (b : Bool) : Path := [(1, true), (0, true), (0, true), (0, true), (0, true), (0, b)]
def orjK : List KI := ((Ly.run ctxY 27 (ordP2 false) (ordH true q0 0 none ⟨fun _ => false, fun _ => 0, fun _ => 0, 1⟩)).st ordD).top.k
def orjV (m : Value) (w x y z i : Int) : List Value := slots Try.f4.ntmps [(8, ptr 2), (10, .int .i64 w), (11, .int .i64 x), (12, .int .i64 y), (13, .int .i64 z), (14, m), (15, .int .i64 i)]
def orjO (b : Bool) (q : OA) (u : Tb) : List (Option LO) := [bO b q, some (mpOf u), some (.cells [.map (some 1)] 54)]
def orjR (t : Tb) : LO := .fn 3 (symC t) t.sz 41
def orjH (b : Bool) (q : OA) (dst : Option Tmp) (u t : Tb) (w x y z i : Int) : St := mkSt Try.f4 orjK dst (bN b) (orjV (sls 3 t.sz) w x y z i) (orjO b q u ++ [some (orjR t)])
def orzH (b : Bool) (q : OA) (dst : Option Tmp) (u : Tb) (w x y z i : Int) : St := mkSt Try.f4 orjK dst (bN b) (orjV (.slice none 0 0) w x y z i) (orjO b q u)
def putA (q : OA) (t : Tb) : Tb := putT t q.sa q.va q.ha
def putB (q : OA) (t : Tb) : Tb := putT t q.sb q.vb q.hb
def ordU (q : OA) (t : Tb) (b : Bool) : List (Bool × Bool) := [(pA t q.sa, true), (pA (putA q t) q.sb, true), (pA t q.sb, true), (pA (putB q t) q.sa, true), (qA (putB q (putA q t)), true), (Nat.beq (putB q (putA q t)).sz 0, b)]
theorem ord2 (q : OA) (i : Int) (dst : Option Tmp) (t : Tb) : headAt [8, 10, 11, 12, 13, 14, 15] [0, 5, 6, 72] ordD (Ly.run ctxY 27 (ordP2 false) (ordH true q i dst t)) = (true, (decide (i < (q.n : Int)), false) :: ordU q t false, true, (Try.f4, orjK, dst, bN true), orjV (sls 3 (putB q (putA q t)).sz) (putK t q.sa q.ha) (putK (putA q t) q.sb q.hb) (putK t q.sb q.hb) (putK (putB q t) q.sa q.ha) 1, orjO true q (putA q (putB q t)) ++ [some (orjR (putB q (putA q t)))]) := by kernel_rfl
theorem ord2z (q : OA) (i : Int) (dst : Option Tmp) (t : Tb) : headAt [8, 10, 11, 12, 13, 14, 15] [0, 5, 6] ordD (Ly.run ctxY 27 (ordP2 true) (ordH true q i dst t)) = (true, (decide (i < (q.n : Int)), false) :: ordU q t true, true, (Try.f4, orjK, dst, bN true), orjV (.slice none 0 0) (putK t q.sa q.ha) (putK (putA q t) q.sb q.hb) (putK t q.sb q.hb) (putK (putB q t) q.sa q.ha) 1, orjO true q (putA q (putB q t))) := by kernel_rfl
theorem orn2 (q : OA) (dst : Option Tmp) (t : Tb) : headAt [8, 10, 11, 12, 13, 14, 15] [0, 5, 6, 72] ordD (Ly.run ctxY 27 (ornP2 false) (ordH false q 0 dst t)) = (true, ordU q t false, true, (Try.f4, orjK, dst, bN false), orjV (sls 3 (putB q (putA q t)).sz) (putK t q.sa q.ha) (putK (putA q t) q.sb q.hb) (putK t q.sb q.hb) (putK (putB q t) q.sa q.ha) 1, orjO false q (putA q (putB q t)) ++ [some (orjR (putB q (putA q t)))]) := by kernel_rfl
theorem orn2z (q : OA) (dst : Option Tmp) (t : Tb) : headAt [8, 10, 11, 12, 13, 14, 15] [0, 5, 6] ordD (Ly.run ctxY 27 (ornP2 true) (ordH false q 0 dst t)) = (true, ordU q t true, true, (Try.f4, orjK, dst, bN false), orjV (.slice none 0 0) (putK t q.sa q.ha) (putK (putA q t) q.sb q.hb) (putK t q.sb q.hb) (putK (putB q t) q.sa q.ha) 1, orjO false q (putA q (putB q t))) := by kernel_rfl
end Go.Proofs.Ytobdoejkioenhaa
namespace Go.Proofs.Ytobdoejkioenhaa
open Go Go.Ly Go.RowKit Go.Sort
theorem sortK_pair (has : ByteArray → Bool) : (sortK has).Pairwise fun a b => leB a b = true := by
  have tr : ∀ a b c : List UInt8, leB a b = true → leB b c = true → leB a c = true := fun a b c h1 h2 => by simp only [leB, decide_eq_true_eq] at *; exact List.le_trans h1 h2
  have to : ∀ a b : List UInt8, (leB a b || leB b a) = true := fun a b => by simp only [leB, Bool.or_eq_true, decide_eq_true_eq]; exact List.le_total a b
  unfold sortK
  split
  · exact List.pairwise_mergeSort tr to _
  · exact List.Pairwise.nil
theorem key_lt {has : ByteArray → Bool} {n : Nat} (hk : KeyG has n) {i j : Nat} (hij : i < j) (hj : j < n) : Op.bytesLess (keyAt has i).toList (keyAt has j).toList = true := by
  have hi : i < (sortK has).length := by rw [hk.len]; omega
  have hj' : j < (sortK has).length := by rw [hk.len]; omega
  have h1 := List.pairwise_iff_getElem.1 (sortK_pair has) i j hi hj' hij
  have h2 := List.pairwise_iff_getElem.1 hk.nodup i j hi hj' hij
  have e : ∀ {k} (h : k < (sortK has).length), (keyAt has k).toList = (sortK has)[k] := fun {k} h => by
    rw [ByteArray.toList_eq]
    unfold keyAt
    rw [List.getD_eq_getElem?_getD, List.getElem?_eq_getElem h, Option.getD_some]
  rw [e hi, e hj', bytesLess_eq, decide_eq_true_eq]
  simp only [leB, decide_eq_true_eq] at h1
  exact Decidable.byContradiction fun hn => h2 (List.le_antisymm h1 (List.not_lt.1 hn))
theorem upd_comm {α : Type} {a b : ByteArray} (h : a ≠ b) (u v : α) (f : ByteArray → α) : (fun x => bif strEq x b then v else bif strEq x a then u else f x) = fun x => bif strEq x a then u else bif strEq x b then v else f x := by
  funext x
  by_cases ha : x = a
  · subst ha; rw [strEq_self, strEq_ne h]; rfl
  · rw [strEq_ne ha]; rfl
theorem putK_other {t : Tb} {a b : ByteArray} {v h h' : Int} (hab : a ≠ b) (hs : t.sz ≤ 100) : putK (putT t a v h) b h' = putK t b h' := by
  have h1 : (putT t a v h).has b = t.has b := by
    unfold putT putU
    cases (putK t a h == 0)
    · rfl
    · exact updS_ne (fun e => hab e.symm)
  have h2 : (putT t a v h).h b = t.h b := by
    unfold putT putU
    cases (putK t a h == 0)
    · rfl
    · show (bif strEq b a then h else t.h b) = t.h b
      rw [strEq_ne (fun e => hab e.symm)]; rfl
  have h3 := put_sz (t := t) (s := a) (v := v) (h := h)
  unfold putK at *
  rw [h1, h2, decide_eq_false (show ¬ (2048 : Int) ≤ ((putT t a v h).sz : Int) by omega), decide_eq_false (show ¬ (2048 : Int) ≤ (t.sz : Int) by omega)]
theorem put_comm {t : Tb} {a b : ByteArray} {v h v' h' : Int} (hab : a ≠ b) (hs : t.sz ≤ 100) : putT (putT t a v h) b v' h' = putT (putT t b v' h') a v h := by
  have k1 := putK_other (t := t) (a := a) (b := b) (v := v) (h := h) (h' := h') hab hs
  have k2 := putK_other (t := t) (a := b) (b := a) (v := v') (h := h') (h' := h) (fun e => hab e.symm) hs
  by_cases ha : putK t a h = 0 <;> by_cases hb : putK t b h' = 0
  · rw [putT_yes (k1.trans hb), putT_yes ha, putT_yes (k2.trans ha), putT_yes hb]
    have e1 : updS t.has a b = t.has b := updS_ne (fun e => hab e.symm)
    have e2 : updS t.has b a = t.has a := updS_ne hab
    unfold putU
    simp only [e1, e2]
    congr 1
    · exact upd_comm hab true true t.has
    · exact upd_comm hab v v' t.n
    · exact upd_comm hab h h' t.h
    · cases t.has a <;> cases t.has b <;> rfl
  · have hb' : (putK t b h' == 0) = false := by simpa using hb
    rw [putT_no (t := putT t a v h) (k1) hb', putT_no (t := t) (s := b) rfl hb']
  · have ha' : (putK t a h == 0) = false := by simpa using ha
    rw [putT_no (t := t) (s := a) rfl ha', putT_no (t := putT t b v' h') k2 ha']
  · have hb' : (putK t b h' == 0) = false := by simpa using hb
    have ha' : (putK t a h == 0) = false := by simpa using ha
    rw [putT_no (t := t) (s := a) rfl ha', putT_no (t := t) (s := b) rfl hb', putT_no (t := t) (s := a) rfl ha']
end Go.Proofs.Ytobdoejkioenhaa
namespace Go.Proofs.Ytobdoejkioenhaa
open Go Go.Ly Go.RowKit
def tE : Tb := ⟨fun _ => false, fun _ => 0, fun _ => 0, 0⟩
theorem emp_or {ρ : Ly.Ren} {i : Nat} {o : Obj} (h : OR ρ i t0 o) : OR ρ i (mpOf tE) o := by
  obtain ⟨h0, hk, es, cl, rfl, hm⟩ := h
  have he : es.toList = [] := List.length_eq_zero_iff.1 hm.len
  refine ⟨h0, hk, es, cl, rfl, ?_⟩
  rw [he]
  exact ⟨rfl, fun e he => by simp at he, fun s hs => (by cases hs), by simp, fun e he => by simp at he⟩
theorem few_E (i : Nat) : Few tE i := ⟨Nat.zero_le _, fun s h => by cases h⟩
section
variable {kd : Nat → Int} {nm : Nat → ByteArray} {ns hs : Nat → Int} {n : Nat}
theorem lgT_ok (hn : n ≤ 9223372036854775807) : lgT kd nm ns hs n = true := by
  unfold lgT
  rw [propB_iff.2 (show isOp (fun e j => opF kd nm ns hs (0 + e) j) n from ⟨hn, fun e _ => ⟨_, _, _, _, rfl, rfl, rfl, rfl⟩⟩), Nat.zero_add, Nat.ble_eq_true_of_le (Nat.le_refl _)]; rfl
theorem liB_iff {n : Nat} {nm : Nat → ByteArray} : liB n nm = true ↔ n ≤ 60 ∧ ∀ e, e < n → (nm e).size ≤ 100 := by
  unfold liB
  simp only [Bool.and_eq_true, decide_eq_true_eq, List.all_eq_true, List.mem_range]
end
theorem isOp0 : isOp (lstG 4 0 []) 0 := ⟨by omega, fun e h => by omega⟩
theorem ck_op {W : World} {v : Value} (h : CkOk W (.slice [.int .i64, .str, .int .u16, .int .i64]) v) : v = .slice none 0 0 ∨ ∃ (k : Nat) (kd : Nat → Int) (nm : Nat → ByteArray) (ns hs : Nat → Int) (p : Option Plc), RealRows W 4 (opF kd nm ns hs) k v p ∧ k ≤ 9223372036854775807 := by
  rcases ck_rows (by rfl) (by decide) h with rfl | ⟨k, F, p, hr, hc, hm⟩
  · exact .inl rfl
  · have hF : ∀ e, e < k → ∃ x s y z, F e = [.int .i64 x, .string s, .int .u16 y, .int .i64 z] := by
      intro e he
      have h1 := hc e he
      simp only [CksOk, CkOk] at h1
      obtain ⟨_, _, e1, ⟨x, rfl, hx⟩, _, _, rfl, ⟨s, rfl, hs⟩, _, _, rfl, ⟨y, rfl, hy⟩, _, _, rfl, ⟨z, rfl, hz⟩, rfl⟩ := h1
      exact ⟨x, s, y, z, e1⟩
    refine .inr ⟨k, fun e => numOf (((F e)[0]?).getD undef), fun e => strAt (((F e)[1]?).getD undef), fun e => numOf (((F e)[2]?).getD undef), fun e => numOf (((F e)[3]?).getD undef), p, hr.congr (fun e j he hj => ?_), by unfold maxLen at hm; omega⟩
    obtain ⟨x, s, y, z, e1⟩ := hF e he
    have hj : j < 4 := hj
    simp only [opF, e1]
    have : j = 0 ∨ j = 1 ∨ j = 2 ∨ j = 3 := by omega
    rcases this with rfl | rfl | rfl | rfl <;> rfl
theorem ops_rep {W : World} {k : Nat} {kd : Nat → Int} {nm : Nat → ByteArray} {ns hs : Nat → Int} {v : Value} {p : Option Plc} [FixW W] (hr : RealRows W 4 (opF kd nm ns hs) k v p) : Rep (rowsRenW [p] (fun _ => 4)) (mkH [some (.arg 4 (opF kd nm ns hs) k)]) W :=
  rowsW_rep (l := [p]) (rs := [(4, opF kd nm ns hs, k)]) rfl (by simp) (by
    intro j q hq
    rcases j with _ | j
    · simp at hq; exact hr.low q hq
    · simp at hq) (by
    intro j k2 g2 n2 h0
    rcases j with _ | j
    · simp at h0; obtain ⟨rfl, rfl, rfl⟩ := h0
      refine ⟨rfl, fun e j he hj => ⟨hr.one e j he hj, ?_⟩⟩
      obtain ⟨q, h3, h4⟩ := hr.cell e j he hj
      exact ⟨q, by simp [h3], h4⟩
    · simp at h0)
end Go.Proofs.Ytobdoejkioenhaa
namespace Go.Proofs.Ytobdoejkioenhaa
open Go Go.Ly Go.RowKit
section
variable (b : Bool) (q : OA) (i : Int) (dst : Option Tmp) (t : Tb) (w x : Int)
theorem orR : headAt [0, 4, 5, 7, 8, 9] [0, 1, 2, 3, 4, 5, 6] ordD (Ly.run ctxY 22 (List.replicate 15 (0, true)) (ordH true q i dst t)) = (true, (decide (i < (q.n : Int)), true) :: (bB q.n i ++ bB q.n i ++ bB q.n i ++ [(pA t (q.nm (0 + i.toNat)), true)] ++ bB q.n i ++ bB q.n i ++ bB q.n i ++ [(pA t (q.nm (0 + i.toNat)), true)]), true, (Try.f4, ordK, dst, bN true), ordV true q.n (IntKind.i64.wrap (i + 1)), ordO true q (mpOf (putT t (q.nm (0 + i.toNat)) (q.ns (0 + i.toNat)) (q.hs (0 + i.toNat)))) (mpOf (putT t (q.nm (0 + i.toNat)) (q.ns (0 + i.toNat)) (q.hs (0 + i.toNat))))) := by kernel_rfl
def orJp : Path := [(0, true), (0, true), (0, true), (0, true), (0, true), (0, false)]
def orJt (t : Tb) (i : Int) : List (Bool × Bool) := (decide (i < (t.sz : Int)), true) :: (bB t.sz (IntKind.i64.wrap (i - 1)) ++ bB t.sz i ++ [(!Op.bytesLess (keyAt t.has (0 + (IntKind.i64.wrap (i - 1)).toNat)).toList (keyAt t.has (0 + i.toNat)).toList, false)])
theorem orJT : headAt [8, 10, 11, 12, 13, 14, 15] [0, 1, 2, 3] ordD (Ly.run ctxY 23 orJp (orjH true q dst t t w x x w i)) = (true, orJt t i, true, (Try.f4, orjK, dst, bN true), orjV (sls 3 t.sz) w x x w (IntKind.i64.wrap (i + 1)), orjO true q t ++ [some (orjR t)]) := by kernel_rfl
theorem orJF : headAt [8, 10, 11, 12, 13, 14, 15] [0, 1, 2, 3] ordD (Ly.run ctxY 23 orJp (orjH false q dst t t w x x w i)) = (true, orJt t i, true, (Try.f4, orjK, dst, bN false), orjV (sls 3 t.sz) w x x w (IntKind.i64.wrap (i + 1)), orjO false q t ++ [some (orjR t)]) := by kernel_rfl
theorem orJ : headAt [8, 10, 11, 12, 13, 14, 15] [0, 1, 2, 3] ordD (Ly.run ctxY 23 orJp (orjH b q dst t t w x x w i)) =
    (true, orJt t i, true, (Try.f4, orjK, dst, bN b), orjV (sls 3 t.sz) w x x w (IntKind.i64.wrap (i + 1)), orjO b q t ++ [some (orjR t)]) := by
  cases b
  · exact orJF q i dst t w x
  · exact orJT q i dst t w x
def orG (t : Tb) : Bool := Nat.ble (0 + t.sz) t.sz && (true && propB (isSym (wG t) t.sz))
def orF (t : Tb) : Bool := Nat.ble (0 + t.sz) t.sz && (true && (Nat.ble (0 + t.sz) t.sz && (true && propB (isSym (fun e j => asSym (wG t) (0 + e) j) t.sz ∧ isSym (fun e j => asSym (wG t) (0 + e) j) t.sz))))
def orEp : Path := [(0, false), (0, true), (3, true), (1, true), (0, false), (2, true), (0, false), (1, true), (0, false), (1, true), (1, true)]
def orEt (t : Tb) (w x i : Int) : List (Bool × Bool) := [(decide (i < (t.sz : Int)), false), ((w == w) == true, true), ((x == x) == true, true), (orG t, true), (Nat.beq t.sz 0, false), (qA t, true), (Nat.beq t.sz 0, false), (orG t, true), (Nat.beq t.sz 0, false), (orF t, true), (sameV t.sz (fun e j => asSym (wG t) (0 + e) j) t.sz (fun e j => asSym (wG t) (0 + e) j) == true, true)]
theorem orE : (Ly.run ctxY 400 orEp (orjH b q dst t t w x x w i)).out? = some (orEt t w x i, .bool true) := by
  cases b
  · exact (show (Ly.run ctxY 400 orEp (orjH false q dst t t w x x w i)).out? = some (orEt t w x i, .bool true) by kernel_rfl)
  · exact (show (Ly.run ctxY 400 orEp (orjH true q dst t t w x x w i)).out? = some (orEt t w x i, .bool true) by kernel_rfl)
def orZp : Path := [(1, true), (3, true), (1, true), (3, true), (0, true), (1, true), (2, true)]
def orZt (t : Tb) (w x : Int) : List (Bool × Bool) := [((w == w) == true, true), ((x == x) == true, true), (true && (true && propB (isSym (lstG 3 0 []) 0)), true), (qA t, true), (Nat.beq t.sz 0, true), (true && (true && propB (isSym (lstG 3 0 []) 0)), true), (true && (true && (true && (true && propB (isSym (lstG 3 0 []) 0 ∧ isSym (lstG 3 0 []) 0)))), true)]
theorem orZ : (Ly.run ctxY 400 orZp (orzH b q dst t w x x w 1)).out? = some (orZt t w x, .bool true) := by
  cases b
  · exact (show (Ly.run ctxY 400 orZp (orzH false q dst t w x x w 1)).out? = some (orZt t w x, .bool true) by kernel_rfl)
  · exact (show (Ly.run ctxY 400 orZp (orzH true q dst t w x x w 1)).out? = some (orZt t w x, .bool true) by kernel_rfl)
end
theorem plain_b {b : Bool} {q : OA} : ∀ x, bO b q = some x → plainO x := by
  intro x hx
  cases b with
  | false => cases hx
  | true =>
    simp only [bO, Option.some.injEq] at hx; subst hx
    exact noBlk_opF q.kd q.nm q.ns q.hs
theorem plain_ord {b : Bool} {q : OA} {t u : LO} (ht : plainO t) (hu : plainO u) : ∀ o ∈ ordO b q t u, ∀ x, o = some x → plainO x := by
  intro o ho x hx
  simp only [ordO, List.mem_cons, List.not_mem_nil, or_false] at ho
  rcases ho with rfl | rfl | rfl | rfl | rfl | rfl | rfl
  · exact plain_b x hx
  all_goals (simp only [Option.some.injEq] at hx; subst hx; first | exact ht | exact hu | exact trivial)
theorem plain_orj {b : Bool} {q : OA} {t : Tb} : ∀ o ∈ orjO b q t, ∀ x, o = some x → plainO x := by
  intro o ho x hx
  simp only [orjO, List.mem_cons, List.not_mem_nil, or_false] at ho
  rcases ho with rfl | rfl | rfl
  · exact plain_b x hx
  all_goals (simp only [Option.some.injEq] at hx; subst hx; exact trivial)
theorem plain_orjR {b : Bool} {q : OA} {u t : Tb} : ∀ o ∈ orjO b q u ++ [some (orjR t)], ∀ x, o = some x → plainO x := by
  intro o ho x hx
  rcases List.mem_append.1 ho with ho | ho
  · exact plain_orj o ho x hx
  · simp only [List.mem_cons, List.not_mem_nil, or_false] at ho
    subst ho
    simp only [Option.some.injEq] at hx; subst hx
    exact fun e j => noBlk_symC t e j
theorem Few.ok2 {t : Tb} {i : Nat} (h : Few t i) (hi : i ≤ 1000) : keyOk t.has t.sz := ⟨by have := h.sz; omega, fun s hs => by have := h.nm s hs; omega⟩
theorem same_self2 {t : Tb} {m : Nat} : sameV m (fun e j => asSym (wG t) (0 + e) j) m (fun e j => asSym (wG t) (0 + e) j) = true := by
  unfold sameV
  rw [Nat.beq_refl, Bool.true_and]
  exact List.all_eq_true.2 fun e _ => saB_self _ _ _ e
section
variable {b : Bool} {q : OA}
theorem orj_end {dst : Option Tmp} {t : Tb} {w x : Int} (hf : Few t 62) (h0 : Nat.beq t.sz 0 = false) : MWp Try.prog (orjH b q dst t t w x x w 1) (fun u _ => u = .bool true) := by
  have hok := hf.ok2 (by omega)
  have hsz := hok.1
  have hs1 : 1 ≤ t.sz := Nat.one_le_iff_ne_zero.2 fun e => by rw [e] at h0; cases h0
  have g1 : orG t = true := by unfold orG; rw [propB_iff.2 (isSym_w hsz), Nat.zero_add, Nat.ble_eq_true_of_le (Nat.le_refl _)]; rfl
  have g2 : orF t = true := by unfold orF; rw [propB_iff.2 ⟨isSym_F hsz, isSym_F hsz⟩, Nat.zero_add, Nat.ble_eq_true_of_le (Nat.le_refl _)]; rfl
  refine MWp.keys (b := 1) (g := fun s => symV s (t.n s) (t.h s)) (has := t.has) (n := t.sz) (by cases b <;> kernel_rfl) (fun hkey => ?_)
  have loop : ∀ (d i : Nat), 1 ≤ i → i ≤ t.sz → t.sz - i = d → MWp Try.prog (orjH b q dst t t w x x w (i : Int)) (fun u _ => u = .bool true) := by
    intro d
    induction d with
    | zero =>
      intro i h1 h2 hd
      have : i = t.sz := by omega
      subst this
      refine MWp.out ctxY_ok 400 _ (orE b q (t.sz : Int) dst t w x) ⟨by simp, by simp, by simp, g1, h0, qA_ok hok, h0, g1, h0, g2, by rw [same_self2]; rfl, trivial⟩ (fun _ => rfl)
    | succ d ih =>
      intro i h1 h2 hd
      have hi : i < t.sz := by omega
      have hm : IntKind.i64.wrap ((i : Int) - 1) = ((i - 1 : Nat) : Int) := by rw [IntKind.wrap_i64]; omega
      have hp : IntKind.i64.wrap ((i : Int) + 1) = ((i + 1 : Nat) : Int) := by rw [IntKind.wrap_i64]; omega
      have hlt := key_lt hkey (i := i - 1) (j := i) (by omega) hi
      refine MWp.head ctxY_ok _ _ _ _ (orJ b q (i : Int) dst t w x) ⟨decide_eq_true (by omega), tr_snoc (tr_snoc (by rw [hm]; exact bB_ok (by omega)) (bB_ok hi)) ⟨?_, trivial⟩⟩ plain_orjR ?_
      · show (!Op.bytesLess (keyAt t.has (0 + (IntKind.i64.wrap ((i : Int) - 1)).toNat)).toList (keyAt t.has (0 + (i : Int).toNat)).toList) = false
        rw [hm, show 0 + ((i - 1 : Nat) : Int).toNat = i - 1 by omega, show 0 + (i : Int).toNat = i by omega, hlt]; rfl
      · rw [hp]; exact ih (i + 1) (by omega) (by omega) (by omega)
  exact loop _ 1 (by omega) hs1 rfl
theorem orz_end {dst : Option Tmp} {t : Tb} {w x : Int} (hf : Few t 62) (h0 : Nat.beq t.sz 0 = true) : MWp Try.prog (orzH b q dst t w x x w 1) (fun u _ => u = .bool true) :=
  MWp.out ctxY_ok 400 _ (orZ b q dst t w x) ⟨by simp, by simp, by rw [propB_iff.2 isSym0]; rfl, qA_ok (hf.ok2 (by omega)), h0, by rw [propB_iff.2 isSym0]; rfl, by rw [propB_iff.2 ⟨isSym0, isSym0⟩]; rfl, trivial⟩ (fun _ => rfl)
theorem ordU_ok {t : Tb} {c : Bool} (ha : q.sa.size ≤ 100) (hb : q.sb.size ≤ 100) (hf : Few t 60) (hc : Nat.beq (putB q (putA q t)).sz 0 = c) : trusted (ordU q t c) :=
  ⟨pA_ok (by omega), pA_ok (by omega), pA_ok (by omega), pA_ok (by omega), qA_ok ((((hf.put ha).put hb)).ok2 (by omega)), hc, trivial⟩
end
theorem ord_tail {q : OA} {dst : Option Tmp} {t : Tb} (ha : q.sa.size ≤ 100) (hb : q.sb.size ≤ 100) (hab : q.sa ≠ q.sb) (hf : Few t 60) : MWp Try.prog (ordH true q (q.n : Int) dst t) (fun u _ => u = .bool true) := by
  have hsz : t.sz ≤ 100 := by have := hf.sz; omega
  have e1 : putA q (putB q t) = putB q (putA q t) := (put_comm hab hsz).symm
  have e2 : putK (putA q t) q.sb q.hb = putK t q.sb q.hb := putK_other hab hsz
  have e3 : putK (putB q t) q.sa q.ha = putK t q.sa q.ha := putK_other (fun e => hab e.symm) hsz
  have hf2 : Few (putB q (putA q t)) 62 := (hf.put ha).put hb
  have hd : decide ((q.n : Int) < (q.n : Int)) = false := by simp
  cases hc : Nat.beq (putB q (putA q t)).sz 0 with
  | false =>
    refine MWp.head ctxY_ok _ _ _ _ (ord2 q (q.n : Int) dst t) ⟨hd, ordU_ok ha hb hf hc⟩ plain_orjR ?_
    rw [e1, e2, e3]
    exact orj_end (b := true) hf2 hc
  | true =>
    refine MWp.head ctxY_ok _ _ _ _ (ord2z q (q.n : Int) dst t) ⟨hd, ordU_ok ha hb hf hc⟩ plain_orj ?_
    rw [e1, e2, e3]
    exact orz_end (b := true) hf2 hc
theorem orn_tail {q : OA} {dst : Option Tmp} {t : Tb} (ha : q.sa.size ≤ 100) (hb : q.sb.size ≤ 100) (hab : q.sa ≠ q.sb) (hf : Few t 60) : MWp Try.prog (ordH false q 0 dst t) (fun u _ => u = .bool true) := by
  have hsz : t.sz ≤ 100 := by have := hf.sz; omega
  have e1 : putA q (putB q t) = putB q (putA q t) := (put_comm hab hsz).symm
  have e2 : putK (putA q t) q.sb q.hb = putK t q.sb q.hb := putK_other hab hsz
  have e3 : putK (putB q t) q.sa q.ha = putK t q.sa q.ha := putK_other (fun e => hab e.symm) hsz
  have hf2 : Few (putB q (putA q t)) 62 := (hf.put ha).put hb
  cases hc : Nat.beq (putB q (putA q t)).sz 0 with
  | false =>
    refine MWp.head ctxY_ok _ _ _ _ (orn2 q dst t) (ordU_ok ha hb hf hc) plain_orjR ?_
    rw [e1, e2, e3]
    exact orj_end (b := false) hf2 hc
  | true =>
    refine MWp.head ctxY_ok _ _ _ _ (orn2z q dst t) (ordU_ok ha hb hf hc) plain_orj ?_
    rw [e1, e2, e3]
    exact orz_end (b := false) hf2 hc
theorem Few.upto {t : Tb} {i j : Nat} (h : Few t i) (hij : i ≤ j) : Few t j := ⟨by have := h.sz; omega, h.nm⟩
theorem ord_loop {q : OA} (ha : q.sa.size ≤ 100) (hb : q.sb.size ≤ 100) (hab : q.sa ≠ q.sb) (hn : q.n ≤ 60) (hl : ∀ e, e < q.n → (q.nm e).size ≤ 100) : ∀ (d i : Nat) (dst : Option Tmp) (t : Tb), i ≤ q.n → q.n - i = d → Few t i →
    MWp Try.prog (ordH true q (i : Int) dst t) (fun u _ => u = .bool true)
  | 0, i, dst, t, h1, hd, hf => by
    have : i = q.n := by omega
    subst this
    exact ord_tail ha hb hab (hf.upto hn)
  | d + 1, i, dst, t, h1, hd, hf => by
    have hi : i < q.n := by omega
    have hz : 0 + (i : Int).toNat = i := by omega
    have hwr : IntKind.i64.wrap ((i : Int) + 1) = ((i + 1 : Nat) : Int) := by rw [IntKind.wrap_i64]; omega
    have hd' : decide ((i : Int) < (q.n : Int)) = true := decide_eq_true (by omega)
    have hbb := bB_ok hi
    have hnm := hl i hi
    have hp : pA t (q.nm (0 + (i : Int).toNat)) = true := pA_ok (by rw [hz]; omega)
    refine MWp.head ctxY_ok _ _ _ _ (orR q (i : Int) dst t) ⟨hd', tr_snoc (tr_snoc (tr_snoc (tr_snoc (tr_snoc (tr_snoc (tr_snoc hbb hbb) hbb) ⟨hp, trivial⟩) hbb) hbb) hbb) ⟨hp, trivial⟩⟩ (plain_ord trivial trivial) ?_
    rw [hwr]
    exact ord_loop ha hb hab hn hl d (i + 1) dst _ (by omega) (by omega) (hf.put (by rw [hz]; exact hnm))
theorem ordTb (q : OA) : headAt [0, 4, 5, 7, 8, 9] [0, 1, 2, 3, 4, 5, 6] ordD (Ly.run ctxY 0 [] { mkSt Try.f4 ordK (some 40) (bN true) (ordV true q.n 0) (ordO true q t0 t0) with H := ((mkSt Try.f4 ordK (some 40) (bN true) (ordV true q.n 0) (ordO true q t0 t0)).H.put 3 (mpOf tE)).put 5 (mpOf tE) }) = (true, [], true, (Try.f4, ordK, some 40, bN true), ordV true q.n 0, ordO true q (mpOf tE) (mpOf tE)) := by kernel_rfl
theorem ornTb (q : OA) : headAt [0, 4, 5, 7, 8, 9] [0, 1, 2, 3, 4, 5, 6] ordD (Ly.run ctxY 0 [] { mkSt Try.f4 ordK (some 40) (bN false) (ordV false q.n 0) (ordO false q t0 t0) with H := ((mkSt Try.f4 ordK (some 40) (bN false) (ordV false q.n 0) (ordO false q t0 t0)).H.put 3 (mpOf tE)).put 5 (mpOf tE) }) = (true, [], true, (Try.f4, ordK, some 40, bN false), ordV false q.n 0, ordO false q (mpOf tE) (mpOf tE)) := by kernel_rfl
theorem gOrd : ctxY.fn.get 4 = some Try.f4 := by kernel_rfl
theorem ord_calls (q : OA) (hn : q.n ≤ 9223372036854775807) : LCalls Try.prog 4 [sls 0 q.n, symV q.sa q.va q.ha, symV q.sb q.vb q.hb] (mkH [some (.arg 4 q.op q.n)]) (fun u _ => u = .bool true) := by
  refine LCalls_of ctxY_ok gOrd (by kernel_rfl) ?_
  show MWp Try.prog (ordS q) _
  have hl : lgQ q = true := lgT_ok hn
  cases hb : liQ q with
  | false => exact MWp.out ctxY_ok 400 _ (ordX1 q) ⟨hl, by rw [hb]; rfl, trivial⟩ (fun _ => rfl)
  | true =>
  have hl2 : ((!(liQ q)) == false) = true := by rw [hb]; rfl
  obtain ⟨k1, k2⟩ := liB_iff.1 hb
  rcases Nat.lt_or_ge 100 q.sa.size with ha | ha
  · exact MWp.out ctxY_ok 400 _ (ordX2 q) ⟨hl, hl2, by rw [decide_eq_true (by omega)]; rfl, trivial⟩ (fun _ => rfl)
  have ga : (decide (100 < (q.sa.size : Int)) == false) = true := by rw [decide_eq_false (by omega)]; rfl
  rcases Nat.lt_or_ge 100 q.sb.size with hb' | hb'
  · exact MWp.out ctxY_ok 400 _ (ordX3 q) ⟨hl, hl2, ga, by rw [decide_eq_true (by omega)]; rfl, trivial⟩ (fun _ => rfl)
  have gb : (decide (100 < (q.sb.size : Int)) == false) = true := by rw [decide_eq_false (by omega)]; rfl
  cases hs : strEq q.sa q.sb with
  | true => exact MWp.out ctxY_ok 400 _ (ordX4 q) ⟨hl, hl2, ga, gb, hs, trivial⟩ (fun _ => rfl)
  | false =>
    have hab : q.sa ≠ q.sb := fun e => by rw [e, strEq_self] at hs; cases hs
    refine MWp.head ctxY_ok _ _ _ _ (ord0 q) ⟨hl, hl2, ga, gb, hs, trivial⟩ (plain_ord trivial trivial) ?_
    refine MWp.objW (b := 3) (o := t0) (o' := mpOf tE) (by kernel_rfl) rfl rfl (by unfold big; omega) (fun ρ x h => emp_or h) ?_
    refine MWp.objW (b := 5) (o := t0) (o' := mpOf tE) (by kernel_rfl) rfl rfl (by unfold big; omega) (fun ρ x h => emp_or h) ?_
    refine MWp.head ctxY_ok _ _ _ _ (ordTb q) trivial (plain_ord trivial trivial) ?_
    exact ord_loop ha hb' hab k1 (fun e he => by have := k2 e he; rw [Nat.zero_add] at this; exact this) _ 0 _ tE (by omega) rfl (few_E 0)
theorem orn_calls (q : OA) : LCalls Try.prog 4 [.slice none 0 0, symV q.sa q.va q.ha, symV q.sb q.vb q.hb] (mkH []) (fun u _ => u = .bool true) := by
  refine LCalls_of ctxY_ok gOrd (by kernel_rfl) ?_
  show MWp Try.prog (ornS q) _
  have hl : lgN = true := by unfold lgN; rw [propB_iff.2 isOp0]; rfl
  rcases Nat.lt_or_ge 100 q.sa.size with ha | ha
  · exact MWp.out ctxY_ok 400 _ (ornX2 q) ⟨hl, by rw [decide_eq_true (by omega)]; rfl, trivial⟩ (fun _ => rfl)
  have ga : (decide (100 < (q.sa.size : Int)) == false) = true := by rw [decide_eq_false (by omega)]; rfl
  rcases Nat.lt_or_ge 100 q.sb.size with hb' | hb'
  · exact MWp.out ctxY_ok 400 _ (ornX3 q) ⟨hl, ga, by rw [decide_eq_true (by omega)]; rfl, trivial⟩ (fun _ => rfl)
  have gb : (decide (100 < (q.sb.size : Int)) == false) = true := by rw [decide_eq_false (by omega)]; rfl
  cases hs : strEq q.sa q.sb with
  | true => exact MWp.out ctxY_ok 400 _ (ornX4 q) ⟨hl, ga, gb, hs, trivial⟩ (fun _ => rfl)
  | false =>
    have hab : q.sa ≠ q.sb := fun e => by rw [e, strEq_self] at hs; cases hs
    refine MWp.head ctxY_ok _ _ _ _ (orn0 q) ⟨hl, ga, gb, hs, trivial⟩ (plain_ord trivial trivial) ?_
    refine MWp.objW (b := 3) (o := t0) (o' := mpOf tE) (by kernel_rfl) rfl rfl (by unfold big; omega) (fun ρ x h => emp_or h) ?_
    refine MWp.objW (b := 5) (o := t0) (o' := mpOf tE) (by kernel_rfl) rfl rfl (by unfold big; omega) (fun ρ x h => emp_or h) ?_
    refine MWp.head ctxY_ok _ _ _ _ (ornTb q) trivial (plain_ord trivial trivial) ?_
    exact orn_tail ha hb' hab (few_E 60)
end Go.Proofs.Ytobdoejkioenhaa
namespace Go.Proofs.Ytobdoejkioenhaa
open Go Go.Ly Go.RowKit
theorem ck_sym {W : World} {v : Value} (h : ∃ cs, v = .agg ⟨cs⟩ ∧ CksOk W [.str, .int .u16, .int .i64] cs) : ∃ s a b, v = symV s a b := by
  obtain ⟨cs, rfl, h1⟩ := h
  simp only [CksOk, CkOk] at h1
  obtain ⟨_, cs1, rfl, ⟨s, rfl, _⟩, _, cs2, rfl, ⟨a, rfl, _⟩, _, cs3, rfl, ⟨b, rfl, _⟩, rfl⟩ := h1
  exact ⟨s, a, b, rfl⟩
theorem VR_sym (ρ : Ly.Ren) (s : ByteArray) (a b : Int) : VR ρ (symV s a b) (symV s a b) := by simp [symV, VR, VRL]
theorem order_walk (W : World) (v0 v1 v2 : Value) (h0 : CkOk W (.slice [.int .i64, .str, .int .u16, .int .i64]) v0) (h1 : ∃ cs, v1 = .agg ⟨cs⟩ ∧ CksOk W [.str, .int .u16, .int .i64] cs) (h2 : ∃ cs, v2 = .agg ⟨cs⟩ ∧ CksOk W [.str, .int .u16, .int .i64] cs) :
    Calls Try.prog 4 #[v0, v1, v2] W fun e W' => e = .returned (.bool true) ∧ Below W.heap.size W W' := by
  obtain ⟨sa, va, ha, rfl⟩ := ck_sym h1
  obtain ⟨sb, vb, hb, rfl⟩ := ck_sym h2
  rcases ck_op h0 with rfl | ⟨k, kd, nm, ns, hs, pl, hr, hk⟩
  · exact calls_ro (ρ := rowsRen []) (orn_calls ⟨bkZ, bkN, bkZ, bkZ, 0, sa, va, ha, sb, vb, hb⟩) rfl (by simp [VRL, VR, symV]) (rows_rep (rs := []) rfl (by simp) (by simp) (by simp)) (fun _ => rfl)
  · exact calls_ro (ρ := rowsRenW [pl] (fun _ => 4)) (ord_calls ⟨kd, nm, ns, hs, k, sa, va, ha, sb, vb, hb⟩ hk) rfl (by simp only [VRL]; exact ⟨v0, _, VR_sls (slW_VR hr (by simp)), ⟨_, _, VR_sym _ _ _ _, ⟨_, _, VR_sym _ _ _ _, rfl, rfl⟩, rfl⟩, rfl⟩) (ops_rep hr) (fun _ => rfl)
end Go.Proofs.Ytobdoejkioenhaa
end
