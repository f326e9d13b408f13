/- Part 8 of the texts that the law needs, laid together. By program (pack.py). -/
import Derived.Test.YtpggoincnebfnaaPnc
import Derived.Test.YtpggoincnebfnaaPnd
import Derived.Test.YtpggoincnebfnaaPng
import Derived.KernelRfl
import Derived.Laws.BitsLemmas
set_option linter.unusedVariables false
set_option linter.unusedSimpArgs false
noncomputable section
namespace Go.Proofs.Ytpggoincnebfnaa
open Go Go.Ly Go.RowKit
def w16 (n : Int) : Int := IntKind.u16.wrap n
def w8 (n : Int) : Int := IntKind.u8.wrap n
def or16 (a b : Int) : Int := bits .or .u16 a b
def and16 (a b : Int) : Int := bits .and .u16 a b
def xor8 (a b : Int) : Int := bits .xor .u8 a b
def and8 (a b : Int) : Int := bits .and .u8 a b
def or8 (a b : Int) : Int := bits .or .u8 a b
def ix (n : Int) : Nat := 0 + n.toNat * 1
def rg (n : Int) : Bool := decide (0 ≤ n) && decide (n < 65536)
def lt16 (n : Int) : Bool := decide (n < 65536)
def bl (n : Nat) : Bool := Nat.blt n 65536
def T (l : List Bool) : List (Bool × Bool) := l.map fun b => (b, true)
def M1 (g : Nat → Int) (i : Nat) (v : Int) : LO := .fn 1 (updG (fun e _ => .int .u8 (g e)) i 0 [.int .u8 v]) 65536 5
def hPm (m : Mc) (o : LO) : List (Option LO) := [some (.cells (cellsP m (tokV 17) (tokV 18)) 60), some o]
def hRm (m : Mc) (o : LO) : List (Option LO) := [some (.cells (cellsR m (tokV 10) (tokV 11)) 56), some o, some (regsR m)]
theorem B8.w {n : Int} (h : B8 n) : B16 n := ⟨h.1, by have := h.2; omega⟩
theorem w16e (n : Int) : w16 n = n % 65536 := IntKind.wrap_u16 n
theorem w8e (n : Int) : w8 n = n % 256 := IntKind.wrap_u8 n
@[simp] theorem b8w8 (n : Int) : B8 (w8 n) := by unfold B8; rw [w8e]; omega
@[simp] theorem b16w16 (n : Int) : B16 (w16 n) := by unfold B16; rw [w16e]; omega
@[simp] theorem b8mod (n : Int) : B8 (n % 256) := by unfold B8; omega
theorem bitsNat (op : BinOp) (k : IntKind) (a b : Int) : ∃ n : Int, bits op k a b = k.wrap n := by
  unfold bits; exact ⟨_, rfl⟩
@[simp] theorem b16or (a b : Int) : B16 (or16 a b) := by
  obtain ⟨n, h⟩ := bitsNat .or .u16 a b; unfold or16; rw [h]; exact b16w16 n
@[simp] theorem b8xor (a b : Int) : B8 (xor8 a b) := by
  obtain ⟨n, h⟩ := bitsNat .xor .u8 a b; unfold xor8; rw [h]; exact b8w8 n
@[simp] theorem b8and (a b : Int) : B8 (and8 a b) := by
  obtain ⟨n, h⟩ := bitsNat .and .u8 a b; unfold and8; rw [h]; exact b8w8 n
@[simp] theorem b8or (a b : Int) : B8 (or8 a b) := by
  obtain ⟨n, h⟩ := bitsNat .or .u8 a b; unfold or8; rw [h]; exact b8w8 n
@[simp] theorem b16pair {h l : Int} (hh : B8 h) (hl : B8 l) : B16 (256 * h + l) := by unfold B8 at hh hl; unfold B16; omega
@[simp] theorem b16_0 : B16 0 := by unfold B16; omega
@[simp] theorem b16_8 : B16 8 := by unfold B16; omega
@[simp] theorem b16_16 : B16 16 := by unfold B16; omega
@[simp] theorem b16_24 : B16 24 := by unfold B16; omega
@[simp] theorem b16_32 : B16 32 := by unfold B16; omega
@[simp] theorem b16_40 : B16 40 := by unfold B16; omega
@[simp] theorem b16_48 : B16 48 := by unfold B16; omega
@[simp] theorem b16_56 : B16 56 := by unfold B16; omega
@[simp] theorem b16of {n : Int} (h : B8 n) : B16 n := h.w
@[simp] theorem w16id {n : Int} (h : B16 n) : w16 n = n := by unfold B16 at h; rw [w16e]; omega
@[simp] theorem w8id {n : Int} (h : B8 n) : w8 n = n := by unfold B8 at h; rw [w8e]; omega
@[simp] theorem sh8 {n : Int} (h : B8 n) : w16 (n * 256) = 256 * n := by unfold B8 at h; rw [w16e]; omega
theorem or_add (h l : Nat) (hh : h < 256) (hl : l < 256) : (256 * h) ||| l = 256 * h + l := by
  have := Nat.two_pow_add_eq_or_of_lt (i := 8) (b := l) (by omega) h
  simpa using this.symm
@[simp] theorem orhl {h l : Int} (hh : B8 h) (hl : B8 l) : or16 (256 * h) l = 256 * h + l := by
  unfold B8 at hh hl
  obtain ⟨h', rfl⟩ := Int.eq_ofNat_of_zero_le hh.1
  obtain ⟨l', rfl⟩ := Int.eq_ofNat_of_zero_le hl.1
  show IntKind.u16.wrap ((BitVec.ofInt 16 (256 * (h' : Int)) ||| BitVec.ofInt 16 (l' : Int)).toNat : Nat) = _
  have e1 : (BitVec.ofInt 16 (256 * (h' : Int))).toNat = 256 * h' := by rw [BitVec.toNat_ofInt]; omega
  have e2 : (BitVec.ofInt 16 (l' : Int)).toNat = l' := by rw [BitVec.toNat_ofInt]; omega
  rw [BitVec.toNat_or, e1, e2, or_add h' l' (by omega) (by omega), IntKind.wrap_u16]; omega
@[simp] theorem orlh {h l : Int} (hh : B8 h) (hl : B8 l) : or16 l (256 * h) = 256 * h + l := by
  have : or16 l (256 * h) = or16 (256 * h) l := by
    show IntKind.u16.wrap ((BitVec.ofInt 16 l ||| BitVec.ofInt 16 (256 * h)).toNat : Nat) = IntKind.u16.wrap ((BitVec.ofInt 16 (256 * h) ||| BitVec.ofInt 16 l).toNat : Nat)
    rw [BitVec.or_comm]
  rw [this, orhl hh hl]
@[simp] theorem or0 {n : Int} (h : B8 n) : or16 0 n = n := by
  have := orhl (h := 0) (l := n) (by unfold B8; omega) h
  simpa using this
@[simp] theorem rdw {a b : Int} (ha : B8 a) (hb : B8 b) : w16 (a + 256 * b) = 256 * b + a := by unfold B8 at ha hb; rw [w16e]; omega
@[simp] theorem and255u (n : Int) : w8 (and16 n 255) = w8 n := by
  show IntKind.u8.wrap (IntKind.u16.wrap ((BitVec.ofInt 16 n &&& BitVec.ofInt 16 255).toNat : Nat)) = IntKind.u8.wrap n
  have h1 : (BitVec.ofInt 16 255).toNat = 2 ^ 8 - 1 := by decide
  have key : (BitVec.ofInt 16 n &&& BitVec.ofInt 16 255).toNat = (n % ((2 ^ 16 : Nat) : Int)).toNat % 2 ^ 8 := by
    rw [BitVec.toNat_and, BitVec.toNat_ofInt, h1, Nat.and_two_pow_sub_one_eq_mod]
  rw [key, IntKind.wrap_u8, IntKind.wrap_u8, IntKind.wrap_u16]; omega
@[simp] theorem addneg1 (n : Int) : n + -1 = n - 1 := rfl
@[simp] theorem b8_0 : B8 0 := by unfold B8; omega
@[simp] theorem b8_255 : B8 255 := by unfold B8; omega
@[simp] theorem b8rrc {n : Int} (h : B8 n) : B8 (n / 2 + n % 2 * 128) := by unfold B8 at h ⊢; omega
@[simp] theorem b8rar {n : Int} (h : B8 n) (b : Bool) : B8 (n / 2 + 128 * cI b) := by unfold B8 at h ⊢; cases b <;> simp [cI] <;> omega
@[simp] theorem addneg2 (n : Int) : n + -2 = n - 2 := rfl
@[simp] theorem back2 {n : Int} (h : B16 n) : w16 (w16 (n + 2) - 2) = n := by unfold B16 at h; rw [w16e, w16e]; omega
@[simp] theorem xnot {n : Int} (h : B8 n) : xor8 255 n = w8 (255 - n) := by
  rw [w8e]
  have := not8 n h.1 h.2
  unfold xor8
  rw [show bits BinOp.xor IntKind.u8 255 n = 255 - n from this]
  unfold B8 at h; omega
@[simp] theorem rgt {n : Int} (h : B16 n) : rg n = true := idx_of h
@[simp] theorem lt16t {n : Int} (h : B16 n) : lt16 n = true := by unfold B16 at h; unfold lt16; simp; omega
@[simp] theorem blt' {n : Int} (h : B16 n) : bl (ix n) = true := blt_of h
@[simp] theorem inbt {n : Int} (h : B8 n) : inb n = true := inb_of h
@[simp] theorem inwt {n : Int} (h : B16 n) : inw n = true := inw_of h
@[simp] theorem Tnil : trusted (T []) = True := rfl
@[simp] theorem Tcons (b : Bool) (l : List Bool) : trusted (T (b :: l)) = (b = true ∧ trusted (T l)) := rfl
@[simp] theorem trnil : trusted [] = True := rfl
@[simp] theorem trcons (b d : Bool) (l : List (Bool × Bool)) : trusted ((b, d) :: l) = (b = d ∧ trusted l) := rfl
@[simp] theorem ixne {n : Int} (h : B16 n) : ix (w16 (n + 1)) ≠ ix n := by unfold B16 at h; unfold ix; rw [w16e]; omega
theorem cIb (b : Bool) : 0 ≤ cI b ∧ cI b ≤ 1 := by cases b <;> simp [cI]
@[simp] theorem b8psw (a b c d e : Bool) : B8 (128 * cI a + 64 * cI b + 16 * cI c + 4 * cI d + 2 + cI e) := by
  have := cIb a; have := cIb b; have := cIb c; have := cIb d; have := cIb e
  unfold B8; omega
@[simp] theorem at1_ix (n k : Int) : at1 n k = ix (w16 (n + k)) := rfl
@[simp] theorem cIt : cI true = 1 := rfl
@[simp] theorem cIf : cI false = 0 := rfl
end Go.Proofs.Ytpggoincnebfnaa
namespace Go.Ly
open Go.RowKit
def Clean (H : Heap) : Prop := ∀ i o, H.get i = some o → noTokO o = true
theorem noTok_ok {ps : List Nat} {v : Value} (h : noTok v = true) : tokOk ps v = true := by
  unfold tokOk
  split
  · simp [noTok] at h
  · exact h
theorem noTok_un {c : List Value} {v : Value} (h : noTok v = true) : unTok c v = v := by
  unfold unTok
  split
  · simp [noTok] at h
  · rfl
theorem noTokL_ok {ps : List Nat} : ∀ {l : List Value}, noTokL l = true → l.all (tokOk ps) = true
  | [], _ => rfl
  | v :: r, h => by
    simp only [noTokL, Bool.and_eq_true] at h
    rw [List.all_cons, noTok_ok h.1, noTokL_ok h.2]; rfl
theorem noTokL_un {c : List Value} : ∀ {l : List Value}, noTokL l = true → l.map (unTok c) = l
  | [], _ => rfl
  | v :: r, h => by
    simp only [noTokL, Bool.and_eq_true] at h
    rw [List.map_cons, noTok_un h.1, noTokL_un h.2]
theorem noTokO_ok {ps : List Nat} {o : LO} (h : noTokO o = true) : tokOkO ps o = true := by
  cases o with
  | cells c t => exact noTokL_ok h
  | row c t z => exact noTokL_ok h
  | fn k g n t => rfl
  | arg k g n => rfl
theorem noTokO_un {c : List Value} {o : LO} (h : noTokO o = true) : unO c o = o := by
  cases o with
  | cells l t => simp only [unO, noTokL_un h]
  | row l t z => simp only [unO, noTokL_un h]
  | fn k g n t => rfl
  | arg k g n => rfl
section
variable {P : Program} {f : FuncId} {args : List Value} {H : Heap}
structure Made (H : Heap) (os : List (Option LO)) (L I : List Nat) (nx : Nat) (os' : List (Option LO)) (H' : Heap) : Prop where
  lock : H'.lock = 0
  next : H'.next = H.next + (nx - os.length)
  now : ∀ (j i : Nat) (o : Option LO), I[j]? = some i → os'[j]? = some o → H'.get (tau L H.next i) = o
  old : ∀ k, k < H.next → k ∉ L → H'.get k = H.get k
  clean : Clean H'
theorem Ends.madeTok {os os' : List (Option LO)} {I L : List Nat} {v : Value} {nx b0 : Nat} {c : List Value} {t : TypeId} {ps : List Nat} (h : Ends P f args os I v nx os') (hB : fitB os I nx = true) (hl : H.lock = 0)
    (hcell : H.get b0 = some (.cells c t)) (hb0 : b0 ∈ L) (hs : Sit (H.put b0 (.cells (tokAt ps 0 c) t)) os L) (hbig : H.next + nx < big) (hc : Clean H)
    (hps : (ps.all fun p => Nat.blt p c.length) = true) (hargs : noTokL (renL (tau L H.next) args) = true) (hv : noTok (renV (tau L H.next) v) = true)
    (hno : ∀ o ∈ os', ∀ x, o = some x → tokOkO ps (renO (tau L H.next) x) = true ∧ noTokO (unO c (renO (tau L H.next) x)) = true) :
    LCalls P f (renL (tau L H.next) args) H (fun u H' => u = renV (tau L H.next) v ∧ Made H os L I nx (os'.map (Option.map (fun x => unO c (renO (tau L H.next) x)))) H') := by
  refine LCalls.ltn fun hlt hsm => ?_
  have hbb : b0 < big := Nat.lt_trans (hlt b0 _ hcell) hsm
  have hget := fun i => Heap.get_put (H := H) (o := .cells (tokAt ps 0 c) t) hbb i
  refine (LCalls.untok hl hcell hc hargs hps (h.fit hB hs hbig) ?_).mono ?_
  · rintro u K ⟨rfl, h1, h2, h3, h4, h5⟩
    refine ⟨hv, h1, fun i o ho => ?_⟩
    rcases h5 i o ho with ⟨_, hi, h6⟩ | ⟨j, i, o', hj, ho', rfl, rfl⟩
    · rw [hget] at h6
      split at h6
      · rename_i e; exact absurd (by rw [e]; exact hb0) hi
      · exact noTokO_ok (hc i o h6)
    · exact (hno _ (List.mem_of_getElem? ho') o' rfl).1
  · rintro u K' ⟨K, ⟨rfl, h1, h2, h3, h4, h5⟩, k1, k2, k3⟩
    refine ⟨rfl, k2, by rw [k1]; exact h2, fun j i o hj ho => ?_, fun k hk hkL => ?_, fun k o ho => ?_⟩
    · rw [List.getElem?_map, Option.map_eq_some_iff] at ho
      obtain ⟨o1, e1, rfl⟩ := ho
      have e2 := h3 j i o1 hj e1
      rw [k3]
      show (K.get (tau L H.next i)).map (unO c) = _
      have e2' : K.get (tau L H.next i) = o1.map (renO (tau L H.next)) := e2
      rw [e2', Option.map_map]; rfl
    · have e3 := h4 k hk hkL
      have : K.get k = H.get k := by
        rw [e3, hget, if_neg (fun e => hkL (by rw [e]; exact hb0))]
      rw [k3, this]
      cases hx : H.get k with
      | none => rfl
      | some o => rw [Option.map_some, noTokO_un (hc k o hx)]
    · rw [k3, Option.map_eq_some_iff] at ho
      obtain ⟨o1, e1, rfl⟩ := ho
      rcases h5 k o1 e1 with ⟨_, hi, h6⟩ | ⟨j, i, o', hj, ho', rfl, rfl⟩
      · rw [hget] at h6
        split at h6
        · rename_i e; exact absurd (by rw [e]; exact hb0) hi
        · rw [noTokO_un (hc k o1 h6)]; exact hc k o1 h6
      · exact (hno _ (List.mem_of_getElem? ho') o' rfl).2
end
section
variable {P : Program} {ρ : Ren} {H : Heap} {w w' : World}
theorem cst_eq {v v' : Value} (h : cst v = true) (hv : VR ρ v v') : v' = v := by
  unfold cst at h
  split at h <;> first | (simp only [VR] at hv; exact hv) | cases h
theorem GR.any {ρ' : Ren} {k n off : Nat} {g : Nat → Nat → Value} {c : List Value} (h : GR ρ k g n off c) : GR ρ' k g n off c :=
  ⟨fun e j he hj => by
    obtain ⟨v', h1, h2⟩ := h.val e j he hj
    exact ⟨v', h1, VR_cst (h.one e j he hj) h2⟩, h.one⟩
theorem view_rows {k : Nat} (hr : Rep ρ H w) {a : Addr} {n c : Nat} {x' : Value} {gd : Bool} {v : Rw} (hx : VR ρ (.slice (some a) n c) x') (h : srcR H k (.slice (some a) n c) = some (gd, v)) (hgd : gd = true) (hc : v.csts = true) :
    v.n = n ∧ ∃ p, RealRows w k (v.fun k) n x' p := by
  obtain ⟨l', a1, c1, hok, hx', hcells⟩ := srcR_cells hr hx h hgd
  obtain ⟨a', c', rfl⟩ := VR_slice_some hx
  have hvn : v.n = n := by injection hx' with _ e _; exact e.symm
  have hg := hok.gr hc
  have hval : ∀ e j, e < n → j < k → l'[e * k + j]? = some (v.fun k e j) := by
    intro e j he hj
    obtain ⟨u, h1, h2⟩ := hg.val e j (by omega) hj
    rw [Nat.zero_add] at h1
    rw [h1, cst_eq (hg.one e j (by omega) hj) h2]
  refine ⟨hvn, ?_⟩
  have hsh := hx
  simp only [VR] at hsh
  obtain ⟨a2, c2, e2, hn2, _, haddr⟩ := hsh
  injection e2 with e3 _ e4
  simp only [Option.some.injEq] at e3
  subst e3 e4
  have hone : ∀ e j, e < n → j < k → cst (v.fun k e j) = true := fun e j he hj => hg.one e j (by omega) hj
  by_cases hn : n = 0
  · exact ⟨none, ⟨_, _, rfl, hn2, fun h0 => absurd hn h0⟩, (fun _ e => by cases e), (fun e j he => by omega), hone⟩
  · obtain ⟨b, hb, rfl, _⟩ := haddr hn
    refine ⟨some ⟨b, ρ.at a, c'⟩, ⟨_, _, rfl, hn2, fun _ => ⟨_, rfl, rfl, rfl⟩⟩, fun q e => ?_, fun e j he hj => ⟨_, rfl, ?_⟩, hone⟩
    · simp only [Option.some.injEq] at e; subst e; exact (hr.dom _ _ hb).2
    · exact hcells _ _ (hval e j he hj) b hb
theorem Rep.extNew (hr : Rep ρ H w) (hn : H.next + 1 < big) {o : LO} {o' : Obj} {b k wd : Nat} (hown : o.own = true) (hb : b < w.heap.size) (hnew : ∀ i, ρ i ≠ some b) (hw : w.heap[b]? = some o') (ho : OR (ρ.ext H.next b k wd) H.next o o') :
    Rep (ρ.ext H.next b k wd) (H.new o) w := by
  have hget : ∀ i, (H.new o).get i = if i = H.next then some o else H.get i := fun i => Tr.get_set _ _ _ hr.small i
  have hn1 : (H.new o).next = H.next + 1 := rfl
  have hle := hr.ext_le b k wd
  refine ⟨hn, ?_, ?_, ?_, ?_, ?_⟩
  · intro i x h
    simp only [Ren.ext] at h
    rw [hn1]
    split at h
    · rename_i e; subst e; simp at h; subst h; exact ⟨by omega, hb⟩
    · have := hr.dom i x h; exact ⟨by omega, this.2⟩
  · intro i j y x hi hx hj h1 h2
    rw [hget] at hi hj
    simp only [Ren.ext] at h1 h2
    by_cases e1 : i = H.next <;> by_cases e2 : j = H.next
    · omega
    · rw [if_pos e1] at h1; rw [if_neg e2] at h2; simp at h1; subst h1; exact absurd h2 (hnew j)
    · rw [if_neg e1] at h1; rw [if_pos e2] at h2; simp at h2; subst h2; exact absurd h1 (hnew i)
    · rw [if_neg e1] at h1 hi; rw [if_neg e2] at h2 hj; exact hr.inj i j y x hi hx hj h1 h2
  · intro i x hx
    rw [hget] at hx
    rw [hn1]
    by_cases e : i = H.next
    · omega
    · rw [if_neg e] at hx; have := hr.lt hx; omega
  · intro i x hx hxo
    rw [hget] at hx
    by_cases e : i = H.next
    · rw [if_pos e] at hx; simp at hx; subst hx; subst e
      exact ⟨fun _ => by simp [Ren.ext], b, o', by simp [Ren.ext], hw, ho⟩
    · rw [if_neg e] at hx
      obtain ⟨q1, y, oy, q2, q3, q4⟩ := hr.obj i x hx hxo
      have hs := hle i y q2
      refine ⟨fun hl => by rw [hs.ro]; exact q1 hl, y, oy, by rw [hs.b]; exact q2, q3, q4.mono hle ?_ ?_ ?_⟩
      · exact hs.cap
      · exact hs.off
      · exact hs.wd
  · intro i k' g n hx
    rw [hget] at hx
    by_cases e : i = H.next
    · rw [if_pos e] at hx; simp at hx; subst hx; simp [LO.own] at hown
    · rw [if_neg e] at hx
      obtain ⟨q1, q2⟩ := hr.arg i k' g n hx
      refine ⟨by simp [Ren.ext, e]; exact q1, q2.mono hle ?_⟩
      simp [Ren.ext, e]
def sls (i n : Nat) : Value := .slice (some ⟨i, 0, some 0⟩) n 18446744073709551616
theorem VR_sls {i n : Nat} {v : Value} (h : VR ρ (sl i n) v) : VR ρ (sls i n) v := by
  have e : ρ.at ⟨i, 0, some 0⟩ = ρ.at ⟨i, 0, none⟩ := by simp [Ren.at]
  simp only [sl, sls, VR] at h ⊢
  rw [e]; exact h
theorem calls_new {f : FuncId} {args0 args' : List Value} {os : List (Option LO)} {ρ1 : Ren} {r N : Nat} {k' : Nat} {g' : Nat → Nat → Value} {t : TypeId}
    (h : LCalls P f args0 (mkH os) (fun u K => u = sl r N ∧ K.get r = some (.fn k' g' N t) ∧ K.lock = 0)) (ha : VRL ρ1 args0 args') (hr1 : Rep ρ1 (mkH os) w) (hro : ∀ i, ρ1.ro i = true)
    (hr : Rep ρ H w) (hn : H.next + 1 < big) :
    Calls P f ⟨args'⟩ w (fun e w' => ∃ ρ' v v' H', e = .returned v' ∧ (v = sl H.next N ∧ H' = H.new (.fn k' g' N t)) ∧ Ren.le ρ ρ' ∧ Fresh ρ ρ' w ∧ VR ρ' v v' ∧ Rep ρ' H' w' ∧ Keep ρ w w') := by
  refine (h ρ1 args' w ha hr1).mono ?_
  rintro e w' ⟨ρ2, u, u', K, rfl, ⟨rfl, hK, hlk⟩, h1, h2, h3, h4, h5⟩
  have hbel : Below w.heap.size w w' := ⟨h5.os, h5.tape, h5.output, h5.size, fun k hk => h5.block k hk (fun i _ => hro i)⟩
  obtain ⟨q1, b, o', q2, q3, q4⟩ := h4.obj r _ hK rfl
  have hro2 : ρ2.ro r = false := q1 (by rw [hlk]; exact Nat.zero_le _)
  have hbnew : w.heap.size ≤ b := by
    rcases h2 r b q2 with h6 | ⟨j, _, h6⟩
    · exact h6
    · have := h6 hro2; rw [hro j] at this; cases this
  have hrB := hr.below hbel
  have hnone : ∀ i, ρ i ≠ some b := fun i e => by have := (hr.dom i b e).2; omega
  obtain ⟨z1, z2, c', d', z3, z4, z5, z6⟩ := q4
  have hOR : OR (ρ.ext H.next b (ρ2.cap r) k') H.next (.fn k' g' N t) o' := by
    refine ⟨by simp [Ren.ext], by simp [Ren.ext], c', d', z3, z4, by simp [Ren.ext]; exact z5, z6.any⟩
  have hRep := hrB.extNew (k := ρ2.cap r) (wd := k') hn rfl (h4.dom r b q2).2 hnone q3 hOR
  refine ⟨ρ.ext H.next b (ρ2.cap r) k', sl H.next N, u', _, rfl, ⟨rfl, rfl⟩, hr.ext_le _ _ _, fun i x hx => ?_, ?_, hRep, Below.toKeep hbel⟩
  · simp only [Ren.ext] at hx
    split at hx
    · simp at hx; subst hx; exact .inl hbnew
    · rename_i e; exact .inr ⟨i, hx, by simp [Ren.ext, e]⟩
  · simp only [sl, VR] at h3 ⊢
    obtain ⟨a', c2, rfl, y1, y2, y3⟩ := h3
    refine ⟨a', c2, rfl, y1, y2, fun hN => ?_⟩
    obtain ⟨b', x1, x2, x3⟩ := y3 hN
    have hbb : b' = b := by
      have x1' : ρ2 r = some b' := x1
      rw [q2] at x1'; simp at x1'; exact x1'.symm
    subst hbb
    refine ⟨b', by simp [Ren.ext], ?_, ?_⟩
    · rw [x2]; simp [Ren.at, Ren.ext, z1]
    · intro hc _
      have := x3 hc (by simp [Ren.at, z1])
      simpa [Ren.ext] using this
def rowNew (k : Nat) (mk : Nat → (Nat → Nat → Value) → Bool × (Nat → Nat → Value) × Nat) (k' : Nat) (t : TypeId) (H : Heap) (args : List Value) : ER :=
  match args with
  | [x] =>
    match srcR H k x with
    | some (g1, u) => bif Nat.beq H.lock 0 && Nat.blt (H.next + 1) 2147483000 then
        .tst (g1 && (u.csts && (mk u.n (u.fun k)).1)) (.mem (sl H.next (mk u.n (u.fun k)).2.2) (H.new (.fn k' (mk u.n (u.fun k)).2.1 (mk u.n (u.fun k)).2.2 t))) .no else .no
    | none => .no
  | _ => .no
theorem rowNew_good {k k' : Nat} {t : TypeId} {f : FuncId} {mk : Nat → (Nat → Nat → Value) → Bool × (Nat → Nat → Value) × Nat} (hp : 0 < k)
    (hS : ∀ n G, (mk n G).1 = true → ∃ r, LCalls P f [sls 0 n] (mkH [some (.arg k G n)]) (fun u K => u = sl r (mk n G).2.2 ∧ K.get r = some (.fn k' (mk n G).2.1 (mk n G).2.2 t) ∧ K.lock = 0))
    (hN : ∀ G, (mk 0 G).1 = true → ∃ r, LCalls P f [.slice none 0 0] (mkH []) (fun u K => u = sl r (mk 0 G).2.2 ∧ K.get r = some (.fn k' (mk 0 G).2.1 (mk 0 G).2.2 t) ∧ K.lock = 0))
    (H : Heap) (args : List Value) : HGood P f args H (rowNew k mk k' t H args) := by
  unfold rowNew
  split
  · rename_i x
    cases h1 : srcR H k x with
    | none => exact trivial
    | some gu =>
      obtain ⟨g1, u⟩ := gu
      simp only
      cases hb0 : (Nat.beq H.lock 0 && Nat.blt (H.next + 1) 2147483000) with
      | false => exact trivial
      | true =>
        rw [Bool.and_eq_true] at hb0
        have hb : H.next + 1 < big := by have := hb0.2; unfold big; simpa [Nat.blt_eq] using this
        refine ⟨fun hg => ?_, fun _ => trivial⟩
        simp only [Bool.and_eq_true] at hg
        obtain ⟨e1, e2, e3⟩ := hg
        intro ρ args' w ha hr
        simp only [VRL] at ha
        obtain ⟨x', _, hx, rfl, rfl⟩ := ha
        rcases nil_or h1 with ⟨rfl, rfl⟩ | ⟨a, n, c, rfl⟩
        · simp only [VR] at hx; subst hx
          obtain ⟨r, hL⟩ := hN _ e3
          exact calls_new (ρ1 := rowsRen []) hL (by simp [VRL, VR]) (rows_rep (rs := []) rfl (by simp) (by simp) (by simp)) (fun _ => rfl) hr hb
        · obtain ⟨hun, p, hrow⟩ := view_rows hr hx h1 e1 e2
          rw [hun] at e3 ⊢
          obtain ⟨r, hL⟩ := hS n _ e3
          refine calls_new (ρ1 := rowsRenW [p] (fun _ => k)) hL (by simp only [VRL]; exact ⟨x', [], VR_sls (slW_VR hrow (by simp)), rfl, rfl⟩)
            (rowsW_rep (l := [p]) (rs := [(k, u.fun k, n)]) rfl (by simp) (by
              intro i q hq
              rcases i with _ | i
              · simp at hq; exact hrow.low q hq
              · simp at hq) (by
              intro i k2 g2 n2 h0
              rcases i with _ | i
              · simp at h0; obtain ⟨rfl, rfl, rfl⟩ := h0
                refine ⟨rfl, fun e j he hj => ⟨hrow.one e j he hj, ?_⟩⟩
                obtain ⟨q, h3, h4⟩ := hrow.cell e j he hj
                exact ⟨q, by simp [h3], h4⟩
              · simp at h0)) (fun _ => rfl) hr hb
  · exact trivial
end
section
variable {P : Program} {Q : Value → Heap → Prop} {f : FuncId} {args : List Value}
theorem Rep.argEq {ρ : Ren} {w : World} {k n : Nat} {g g' : Nat → Nat → Value} (he : ∀ e j, e < n → j < k → g e j = g' e j) (hr : Rep ρ (mkH [some (.arg k g n)]) w) : Rep ρ (mkH [some (.arg k g' n)]) w := by
  have hget : ∀ (g : Nat → Nat → Value) i, (mkH [some (.arg k g n)]).get i = if i = 0 then some (.arg k g n) else none := by
    intro g i
    rw [mkH_get _ (by simp [big])]
    rcases i with _ | i
    · simp
    · simp
  refine ⟨hr.small, hr.dom, fun i j b o hi ho => ?_, fun i o ho => ?_, fun i o ho hown => ?_, fun i k2 g2 n2 ho => ?_⟩
  · rw [hget] at hi; split at hi
    · simp only [Option.some.injEq] at hi; subst hi; simp [LO.own] at ho
    · cases hi
  · rw [hget] at ho; split at ho
    · rename_i e; subst e; show 0 < 1; omega
    · cases ho
  · rw [hget] at ho; split at ho
    · simp only [Option.some.injEq] at ho; subst ho; simp [LO.own] at hown
    · cases ho
  · rw [hget] at ho; split at ho
    · rename_i e; subst e
      simp only [Option.some.injEq, LO.arg.injEq] at ho
      obtain ⟨rfl, rfl, rfl⟩ := ho
      obtain ⟨h1, h2⟩ := hr.arg 0 k g n (by rw [hget]; rfl)
      refine ⟨h1, h2.wd, fun e j h3 h4 => ?_⟩
      rw [← he e j h3 h4]; exact h2.cell e j h3 h4
    · cases ho
theorem LCalls.argEq {k n : Nat} {g g' : Nat → Nat → Value} (he : ∀ e j, e < n → j < k → g e j = g' e j) (h : LCalls P f args (mkH [some (.arg k g' n)]) Q) : LCalls P f args (mkH [some (.arg k g n)]) Q :=
  fun ρ args' w ha hr => h ρ args' w ha (hr.argEq he)
theorem MWp.weakQ {S : St} {Q' : Value → Heap → Prop} (h : MWp P S Q) (hq : ∀ v K, Q v K → ∃ K', Q' v K' ∧ WeakH K K') : MWp P S Q' := by
  intro ρ w g gs R hr hf hfl hk
  refine h ρ w g gs R hr hf hfl (fun ρ' v v' H' w' h1 h2 h3 h4 h5 h6 => ?_)
  obtain ⟨K', k1, k2⟩ := hq v H' h1
  exact hk ρ' v v' K' w' k1 h2 h3 h4 (h5.weak k2) h6
theorem weak_mkH {os os' : List (Option LO)} (h : Each2 OLeq os os') (hl : os.length < big) : WeakH (mkH os) (mkH os') := by
  have hlen := h.length
  refine ⟨hlen.symm, rfl, fun i o ho => ?_⟩
  rw [mkH_get _ (by omega)] at ho
  rw [mkH_get _ hl]
  rcases Nat.lt_or_ge i os.length with hi | hi
  · rw [List.getElem?_eq_getElem (by omega)] at ho
    have := h.get i _ _ (List.getElem?_eq_getElem hi) (List.getElem?_eq_getElem (by omega))
    rw [List.getElem?_eq_getElem hi]
    simp only [Option.getD_some] at ho ⊢
    rw [ho] at this
    cases hx : os[i] with
    | none => rw [hx] at this; exact this.elim
    | some x => rw [hx] at this; exact ⟨x, rfl, .inr this⟩
  · rw [List.getElem?_eq_none (by omega)] at ho; cases ho
end
end Go.Ly
namespace Go.Proofs.Ytpggoincnebfnaa
open Go Go.Ly Go.RowKit
def memF (a b : Nat → Int) : Nat → Nat → Int
  | 0 => fun _ => 0
  | i + 1 => upd (memF a b i) (ix (a i)) (b i)
theorem memF_mem {a b : Nat → Int} : ∀ (n : Nat), (∀ e, e < n → B8 (b e)) → Mem (memF a b n)
  | 0, _ => fun e => by simp [memF]
  | n + 1, h => upd_mem (memF_mem n (fun e he => h e (by omega))) (h n (by omega))
def zeroL : LO := .fn 1 (fun x q => ((cellsL (Value.int .u8 0))[q]?).getD undef) 65536 5
theorem zero_eq : LOeq zeroL (memL (fun _ => 0)) := by
  refine .inr ⟨1, _, _, _, _, rfl, rfl, fun e x _ hx => ?_⟩
  obtain rfl : x = 0 := by omega
  rfl
def memD : St := Ly.start Try.f25 [] H0
def memK : List KI := ((Ly.run env.bare 16 [] (Ly.start Try.f25 [sls 0 0] (mkH [some (bytes2 (fun _ => 0) (fun _ => 0) 0)]))).st memD).top.k
def memV (n : Nat) (i : Int) : List Value := slots 25 [(0, sls 0 n), (3, sl 1 65536), (4, .int .i64 i)]
theorem gM25 : env.bare.fn.get 25 = some Try.f25 := by kernel_rfl
theorem mem_0 (n : Nat) (a b : Nat → Int) : headAt [0, 3, 4] [0, 1] memD (Ly.run env.bare 16 [] (Ly.start Try.f25 [sls 0 n] (mkH [some (bytes2 a b n)]))) = (true, [], true, (Try.f25, memK, none, 1), memV n 0, [some (bytes2 a b n), some zeroL]) := by kernel_rfl
theorem mem_I (n : Nat) (a b g : Nat → Int) (i : Int) : headAt [0, 3, 4] [0, 1] memD (Ly.run env.bare 35 [(0, true), (0, true), (0, true), (0, true), (0, true), (0, true), (0, true)] (mkSt Try.f25 memK none 1 (memV n i) [some (bytes2 a b n), some (memL g)])) = (true, [(decide (i < n), true), (decide (0 ≤ i) && decide (i < n), true), (Nat.blt (0 + i.toNat) n, true), (decide (0 ≤ i) && decide (i < n), true), (Nat.blt (0 + i.toNat) n, true), (rg (a (0 + i.toNat)), true), (bl (ix (a (0 + i.toNat))), true)], true, (Try.f25, memK, none, 1), memV n (IntKind.i64.wrap (i + 1)), [some (bytes2 a b n), some (M1 g (ix (a (0 + i.toNat))) (b (0 + i.toNat)))]) := by kernel_rfl
theorem mem_T (n : Nat) (a b g : Nat → Int) (i : Int) : (Ly.run env.bare 200 [(0, false)] (mkSt Try.f25 memK none 1 (memV n i) [some (bytes2 a b n), some (memL g)])).end? = some ([(decide (i < n), false)], sl 1 65536, mkH [some (bytes2 a b n), some (memL g)]) := by kernel_rfl
theorem mem_nil : (Ly.run env.bare 300 [] (Ly.start Try.f25 [.slice none 0 0] (mkH []))).end? = some ([], sl 0 65536, mkH [some zeroL]) := by kernel_rfl
theorem mem_P (n : Nat) (a b g : Nat → Int) (i : Nat) (v : Int) : ∀ o ∈ [some (bytes2 a b n), some (M1 g i v)], ∀ x, o = some x → plainO x := by
  intro o ho x hx
  simp only [List.mem_cons, List.not_mem_nil, or_false] at ho
  rcases ho with rfl | rfl <;> (simp only [Option.some.injEq] at hx; subst hx)
  · intro e j; cases j <;> simp [noBlk, blks]
  · intro e j
    simp only [updG]
    cases h : (Nat.ble 0 j && Nat.blt j (0 + [Value.int .u8 v].length)) with
    | false => simp [noBlk, blks]
    | true =>
      simp only [cond_true]; rw [vif_eq]
      cases Nat.beq e i with
      | false => simp [noBlk, blks]
      | true =>
        have : j = 0 := by simp [Nat.blt_eq] at h; omega
        subst this; simp [noBlk, blks]
theorem mem_Pz (n : Nat) (a b : Nat → Int) : ∀ o ∈ [some (bytes2 a b n), some zeroL], ∀ x, o = some x → plainO x := by
  intro o ho x hx
  simp only [List.mem_cons, List.not_mem_nil, or_false] at ho
  rcases ho with rfl | rfl <;> (simp only [Option.some.injEq] at hx; subst hx)
  · intro e j; cases j <;> simp [noBlk, blks]
  · intro e j; cases j <;> simp [noBlk, blks, blksL, cellsL, undef]
theorem mem_loop (n : Nat) (a b : Nat → Int) (hn : n ≤ 9223372036854775806) (ha : ∀ e, e < n → B16 (a e)) : ∀ (d : Nat) (i : Nat), i ≤ n → n - i = d →
    MWp Try.prog (mkSt Try.f25 memK none 1 (memV n i) [some (bytes2 a b n), some (memL (memF a b i))]) (fun v K => v = sl 1 65536 ∧ K.get 1 = some (memL (memF a b n)) ∧ K.lock = 0)
  | 0, i, h1, hd => by
    have hi : i = n := by omega
    subst hi
    refine MWp.done (Env.bare_ok envOk) 200 _ (mem_T i a b _ i) (by simp [trusted]) ⟨rfl, ?_, rfl⟩
    rw [mkH_get _ (by simp [big])]; rfl
  | d + 1, i, h1, hd => by
    have hi : i < n := by omega
    have e0 : 0 + (i : Int).toNat = i := by omega
    have hlt : Nat.blt i n = true := by rw [Nat.blt_eq]; omega
    have hb := ha i hi
    refine MWp.head (Env.bare_ok envOk) _ _ _ _ (mem_I n a b _ i) (by rw [e0]; simp [trusted, hlt, hi, hb]) (mem_P n a b _ _ _) ?_
    have hw : IntKind.i64.wrap ((i : Int) + 1) = ((i + 1 : Nat) : Int) := by rw [IntKind.wrap_i64]; omega
    rw [hw, e0]
    refine MWp.weak (K := mkH [some (bytes2 a b n), some (memL (memF a b (i + 1)))]) (weak_mkH ⟨.inl rfl, mem1 _ _ _, trivial⟩ (by simp [big])) ?_
    exact mem_loop n a b hn ha d (i + 1) (by omega) (by omega)
theorem mem_calls (n : Nat) (a b : Nat → Int) (hn : n ≤ 9223372036854775806) (ha : ∀ e, e < n → B16 (a e)) :
    LCalls Try.prog 25 [sls 0 n] (mkH [some (bytes2 a b n)]) (fun u K => u = sl 1 65536 ∧ K.get 1 = some (memL (memF a b n)) ∧ K.lock = 0) := by
  refine LCalls_of (Env.bare_ok envOk) gM25 (by kernel_rfl) ?_
  refine MWp.head (Env.bare_ok envOk) _ _ _ _ (mem_0 n a b) trivial (mem_Pz n a b) ?_
  refine MWp.weak (K := mkH [some (bytes2 a b n), some (memL (memF a b 0))]) (weak_mkH ⟨.inl rfl, zero_eq, trivial⟩ (by simp [big])) ?_
  exact mem_loop n a b hn ha n 0 (by omega) (by omega)
def atOf (G : Nat → Nat → Value) : Nat → Int := fun e => intV (G e 0)
def byOf (G : Nat → Nat → Value) : Nat → Int := fun e => intV (G e 1)
def okM (n : Nat) (G : Nat → Nat → Value) : Bool := Nat.ble n 1000 && (List.range n).all fun e => isK .u16 (G e 0) && (isK .u8 (G e 1) && inw (intV (G e 0)))
def memMk (n : Nat) (G : Nat → Nat → Value) : Bool × (Nat → Nat → Value) × Nat := (okM n G, fun e _ => .int .u8 (memF (atOf G) (byOf G) n e), 65536)
def memC : Heap → List Value → ER := rowNew 2 memMk 1 5
theorem memC_good (H : Heap) (args : List Value) : HGood Try.prog 25 args H (memC H args) := by
  refine rowNew_good (by decide) (fun n G h => ⟨1, ?_⟩) (fun G h => ⟨0, ?_⟩) H args
  · simp only [memMk, okM, Bool.and_eq_true, List.all_eq_true, List.mem_range] at h
    obtain ⟨h1, h2⟩ := h
    have h1' := Nat.le_of_ble_eq_true h1
    refine LCalls.argEq (g' := fun e j => match j with | 0 => .int .u16 (atOf G e) | _ + 1 => .int .u8 (byOf G e)) (fun e j he hj => ?_) (mem_calls n (atOf G) (byOf G) (by omega) (fun e he => (inw_iff _).1 (h2 e he).2.2))
    obtain ⟨k1, k2, _⟩ := h2 e he
    have : j = 0 ∨ j = 1 := by omega
    rcases this with rfl | rfl
    · exact isK_eq k1
    · exact isK_eq k2
  · refine LCalls_of (Env.bare_ok envOk) gM25 (by kernel_rfl) ?_
    refine MWp.weakQ (MWp.done (Q := fun u K => u = sl 0 65536 ∧ K = mkH [some zeroL]) (Env.bare_ok envOk) 300 _ mem_nil trivial ⟨rfl, rfl⟩) ?_
    rintro v K ⟨rfl, rfl⟩
    refine ⟨mkH [some (memL (fun _ => 0))], ⟨rfl, ?_, rfl⟩, weak_mkH ⟨zero_eq, trivial⟩ (by simp [big])⟩
    rw [mkH_get _ (by simp [big])]; rfl
end Go.Proofs.Ytpggoincnebfnaa
namespace Go.Proofs.Ytpggoincnebfnaa
open Go Go.Ly Go.RowKit
def nilV : Value := .slice none 0 0
def empV (p : Nat) : Value := .slice (some ⟨p, 0, none⟩) 0 18446744073709551616
def inV (x j n : Nat) : Value := .slice (some ⟨x, j, none⟩) n 18446744073709551616
def rowF (f : Nat → Int) (n : Nat) : LO := .fn 1 (fun e _ => .int .u8 (f e)) n 5
def outF (a b : Nat → Int) (n : Nat) : LO := .fn 2 (fun e j => match j with | 0 => .int .u8 (a e) | _ + 1 => .int .u8 (b e)) n 81
end Go.Proofs.Ytpggoincnebfnaa
namespace Go.Proofs.Ytpggoincnebfnaa
open Go Go.Ly Go.RowKit
end Go.Proofs.Ytpggoincnebfnaa
namespace Go.Proofs.Ytpggoincnebfnaa
open Go Go.Ly Go.RowKit
structure Js where
  m : Mc
  g : Nat → Int
  j : Nat
  N : Nat
  f : Nat → Int
  q : Nat
  fp : Nat → Int
  fb : Nat → Int
structure Js.Ok (s : Js) : Prop where
  m : s.m.Ok
  g : Mem s.g
  f : ∀ e, e < s.N → B8 (s.f e)
  j : s.j ≤ s.N
def cellsPb (b rg : Nat) (m : Mc) (i o : Value) : List Value := [.int .u8 m.r0, .int .u8 m.r1, .int .u8 m.r2, .int .u8 m.r3, .int .u8 m.r4, .int .u8 m.r5, .int .u8 0, .int .u8 m.r7, .bool m.fs, .bool m.fz, .bool m.fx, .bool m.fp, .bool m.fc, .int .u16 m.sp, .int .u16 m.pc, .bool m.ie, .bool m.halt, i, o, sl b 65536]
def cellsRb (b rg : Nat) (m : Mc) (i o : Value) : List Value := [sl rg 8, .bool m.fs, .bool m.fz, .bool m.fx, .bool m.fp, .bool m.fc, .int .u16 m.sp, .int .u16 m.pc, .bool m.ie, .bool m.halt, i, o, sl b 65536]
theorem noP (b rg : Nat) (m : Mc) (i o : Value) : noTokL (cellsPb b rg m i o) = (noTok i && noTok o) := by simp [cellsPb, noTokL, noTok, sl]
theorem noR (b rg : Nat) (m : Mc) (i o : Value) : noTokL (cellsRb b rg m i o) = (noTok i && noTok o) := by simp [cellsRb, noTokL, noTok, sl]
def rowP (f : Nat → Int) (N : Nat) : LO := rowF f N
def rowR (f : Nat → Int) (N : Nat) : LO := ints .u8 f N
def InAt (row : (Nat → Int) → Nat → LO) (H : Heap) (iv : Value) (j N : Nat) (f : Nat → Int) (V : List Nat) : Prop := (j = N ∧ V = [] ∧ (iv = nilV ∨ ∃ a c, iv = .slice (some a) 0 c)) ∨ (j < N ∧ ∃ x, V = [x] ∧ iv = inV x j (N - j) ∧ H.get x = some (row f N))
def OutAt (H : Heap) (ov : Value) (q : Nat) (fp fb : Nat → Int) (V : List Nat) : Prop := (q = 0 ∧ V = [] ∧ ov = nilV) ∨ (0 < q ∧ ∃ y, V = [y] ∧ ov = sls y q ∧ H.get y = some (outF fp fb q))
theorem InAt.same {row : (Nat → Int) → Nat → LO} {H H' : Heap} {iv : Value} {j N : Nat} {f : Nat → Int} {V : List Nat} (h : InAt row H iv j N f V) (he : ∀ i ∈ V, H'.get i = H.get i) : InAt row H' iv j N f V := by
  rcases h with h | ⟨h1, x, rfl, h2, h3⟩
  · exact .inl h
  · exact .inr ⟨h1, x, rfl, h2, by rw [he x (by simp)]; exact h3⟩
theorem OutAt.same {H H' : Heap} {ov : Value} {q : Nat} {fp fb : Nat → Int} {V : List Nat} (h : OutAt H ov q fp fb V) (he : ∀ i ∈ V, H'.get i = H.get i) : OutAt H' ov q fp fb V := by
  rcases h with h | ⟨h1, y, rfl, h2, h3⟩
  · exact .inl h
  · exact .inr ⟨h1, y, rfl, h2, by rw [he y (by simp)]; exact h3⟩
theorem InAt.noTok {row : (Nat → Int) → Nat → LO} {H : Heap} {iv : Value} {j N : Nat} {f : Nat → Int} {V : List Nat} (h : InAt row H iv j N f V) : Go.Ly.noTok iv = true := by
  rcases h with ⟨_, _, rfl | ⟨a, c, rfl⟩⟩ | ⟨_, x, _, rfl, _⟩ <;> rfl
theorem OutAt.noTok {H : Heap} {ov : Value} {q : Nat} {fp fb : Nat → Int} {V : List Nat} (h : OutAt H ov q fp fb V) : Go.Ly.noTok ov = true := by
  rcases h with ⟨_, _, rfl⟩ | ⟨_, x, _, rfl, _⟩ <;> rfl
structure Nx (H H' : Heap) (O : List Nat) : Prop where
  lock : H'.lock = 0
  le : H.next ≤ H'.next
  ge : H'.next ≤ H.next + 64
  clean : Ly.Clean H'
  old : ∀ i, i < H.next → i ∉ O → H'.get i = H.get i
structure Pm (H : Heap) (p b rg : Nat) (s : Js) (iv ov : Value) (VI VO : List Nat) : Prop where
  cells : H.get p = some (.cells (cellsPb b rg s.m iv ov) 60)
  mem : H.get b = some (memL s.g)
  regs : True
  inn : InAt rowP H iv s.j s.N s.f VI
  out : OutAt H ov s.q s.fp s.fb VO
  nd : ([p, b] ++ (VI ++ VO)).Nodup
def PM (H : Heap) (p : Nat) (s : Js) (O V : List Nat) : Prop := ∃ b rg iv ov VI VO, Pm H p b rg s iv ov VI VO ∧ O = [p, b] ++ VO ∧ V = [p, b] ++ (VI ++ VO)
theorem PM.same {H H' : Heap} {p : Nat} {s : Js} {O V : List Nat} (h : PM H p s O V) (he : ∀ i ∈ V, H'.get i = H.get i) : PM H' p s O V := by
  obtain ⟨b, rg, iv, ov, VI, VO, ⟨h1, h2, h3, h4, h5, h6⟩, rfl, rfl⟩ := h
  refine ⟨b, rg, iv, ov, VI, VO, ⟨by rw [he p (by simp)]; exact h1, by rw [he b (by simp)]; exact h2, h3, h4.same fun i hi => he i (by simp [hi]), h5.same fun i hi => he i (by simp [hi]), h6⟩, rfl, rfl⟩
def PN (H : Heap) (p : Nat) (s' : Js) (O V : List Nat) (H' : Heap) : Prop := Nx H H' O ∧ ∃ O' V', PM H' p s' O' V' ∧ (∀ i ∈ O', i ∈ O ∨ H.next ≤ i) ∧ (∀ i ∈ V', i ∈ V ∨ H.next ≤ i)
theorem P_tok {H : Heap} {p : Nat} {s : Js} {O V : List Nat} {k : Int} {m' : Mc} {g' : Nat → Int} (h : PM H p s O V) (hl : H.lock = 0) (hc : Ly.Clean H) (hb : H.next + 64 < big)
    (he : Ly.Ends Try.prog 13 [ptr 0] (hP s.m s.g) [0, 1] (.int .i64 k) 64 (hP m' g')) :
    LCalls Try.prog 13 [ptr p] H (fun u H' => u = .int .i64 k ∧ PN H p { s with m := m', g := g' } O V H') := by
  obtain ⟨b, rg, iv, ov, VI, VO, ⟨h1, h2, h3, h4, h5, h6⟩, rfl, rfl⟩ := h
  refine LCalls.ltn fun hlt hsm => ?_
  have hnp := hlt _ _ h1
  have hn1 := h4.noTok
  have hn2 := h5.noTok
  have hnd : [p, b].Nodup := (List.nodup_append.1 h6).1
  have hpb : p ≠ b := by intro e; simp [e] at hnd
  have hget := fun i => Heap.get_put (H := H) (o := .cells (tokAt [17, 18] 0 (cellsPb b rg s.m iv ov)) 60) (Nat.lt_trans hnp hsm) i
  have hs : Sit (H.put p (.cells (tokAt [17, 18] 0 (cellsPb b rg s.m iv ov)) 60)) (hP s.m s.g) [p, b] := by
    refine ⟨hl, rfl, hnd, fun i o hi => ?_⟩
    rcases i with _ | _ | i
    · simp only [hP, List.getElem?_cons_zero, Option.some.injEq] at hi; subst hi
      show (H.put p _).get p = _
      rw [hget, if_pos rfl]; rfl
    · simp only [hP, List.getElem?_cons_succ, List.getElem?_cons_zero, Option.some.injEq] at hi; subst hi
      show (H.put p _).get b = _
      rw [hget, if_neg hpb.symm, h2]; rfl
    · simp [hP] at hi
  have key : LCalls Try.prog 13 [ptr p] H _ := he.madeTok (c := cellsPb b rg s.m iv ov) (t := 60) (ps := [17, 18]) (b0 := p) (L := [p, b]) (by rfl) hl h1 (by simp) hs hb hc (by rfl) (by rfl) (by rfl) (by
    intro o ho x hx
    simp only [hP, List.mem_cons, List.not_mem_nil, or_false] at ho
    rcases ho with rfl | rfl <;> (simp only [Option.some.injEq] at hx; subst hx)
    · refine ⟨rfl, ?_⟩
      show noTokL (cellsPb b rg m' iv ov) = true
      rw [noP, hn1, hn2]; rfl
    · exact ⟨rfl, rfl⟩
)
  refine key.mono ?_
  rintro u H' ⟨rfl, hM⟩
  refine ⟨rfl, ⟨hM.lock, by rw [hM.next]; omega, by rw [hM.next]; omega, hM.clean, fun i hi hO => hM.old i hi (fun h => hO (by simp at h ⊢; grind))⟩, _, _, ⟨b, rg, iv, ov, VI, VO, ⟨?_, ?_, ?_, ?_, ?_, h6⟩, rfl, rfl⟩, fun i hi => .inl hi, fun i hi => .inl hi⟩
  · exact hM.now 0 0 _ rfl rfl
  · exact hM.now 1 1 _ rfl rfl
  · trivial
  · refine h4.same fun i hi => hM.old i ?_ ?_
    · rcases h4 with ⟨_, rfl, _⟩ | ⟨_, x, rfl, _, hx⟩
      · cases hi
      · simp at hi; subst hi; exact hlt _ _ hx
    · intro hiL; exact (List.nodup_append.1 h6).2.2 i hiL i (by simp [hi]) rfl
  · refine h5.same fun i hi => hM.old i ?_ ?_
    · rcases h5 with ⟨_, rfl, _⟩ | ⟨_, x, rfl, _, hx⟩
      · cases hi
      · simp at hi; subst hi; exact hlt _ _ hx
    · intro hiL; exact (List.nodup_append.1 h6).2.2 i hiL i (by simp [hi]) rfl
structure Rm (H : Heap) (p b rg : Nat) (s : Js) (iv ov : Value) (VI VO : List Nat) : Prop where
  cells : H.get p = some (.cells (cellsRb b rg s.m iv ov) 56)
  mem : H.get b = some (memL s.g)
  regs : H.get rg = some (regsR s.m)
  inn : InAt rowR H iv s.j s.N s.f VI
  out : OutAt H ov s.q s.fp s.fb VO
  nd : ([p, b, rg] ++ (VI ++ VO)).Nodup
def RM (H : Heap) (p : Nat) (s : Js) (O V : List Nat) : Prop := ∃ b rg iv ov VI VO, Rm H p b rg s iv ov VI VO ∧ O = [p, b, rg] ++ VO ∧ V = [p, b, rg] ++ (VI ++ VO)
theorem RM.same {H H' : Heap} {p : Nat} {s : Js} {O V : List Nat} (h : RM H p s O V) (he : ∀ i ∈ V, H'.get i = H.get i) : RM H' p s O V := by
  obtain ⟨b, rg, iv, ov, VI, VO, ⟨h1, h2, h3, h4, h5, h6⟩, rfl, rfl⟩ := h
  refine ⟨b, rg, iv, ov, VI, VO, ⟨by rw [he p (by simp)]; exact h1, by rw [he b (by simp)]; exact h2, (by rw [he rg (by simp)]; exact h3), h4.same fun i hi => he i (by simp [hi]), h5.same fun i hi => he i (by simp [hi]), h6⟩, rfl, rfl⟩
def RN (H : Heap) (p : Nat) (s' : Js) (O V : List Nat) (H' : Heap) : Prop := Nx H H' O ∧ ∃ O' V', RM H' p s' O' V' ∧ (∀ i ∈ O', i ∈ O ∨ H.next ≤ i) ∧ (∀ i ∈ V', i ∈ V ∨ H.next ≤ i)
theorem R_tok {H : Heap} {p : Nat} {s : Js} {O V : List Nat} {k : Int} {m' : Mc} {g' : Nat → Int} (h : RM H p s O V) (hl : H.lock = 0) (hc : Ly.Clean H) (hb : H.next + 64 < big)
    (he : Ly.Ends Try.prog 14 [ptr 0] (hR s.m s.g) [0, 1, 2] (.int .i64 k) 64 (hR m' g')) :
    LCalls Try.prog 14 [ptr p] H (fun u H' => u = .int .i64 k ∧ RN H p { s with m := m', g := g' } O V H') := by
  obtain ⟨b, rg, iv, ov, VI, VO, ⟨h1, h2, h3, h4, h5, h6⟩, rfl, rfl⟩ := h
  refine LCalls.ltn fun hlt hsm => ?_
  have hnp := hlt _ _ h1
  have hn1 := h4.noTok
  have hn2 := h5.noTok
  have hnd : [p, b, rg].Nodup := (List.nodup_append.1 h6).1
  have hpb : p ≠ b := by intro e; simp [e] at hnd
  have hpr : p ≠ rg := by intro e; simp [e] at hnd
  have hget := fun i => Heap.get_put (H := H) (o := .cells (tokAt [10, 11] 0 (cellsRb b rg s.m iv ov)) 56) (Nat.lt_trans hnp hsm) i
  have hs : Sit (H.put p (.cells (tokAt [10, 11] 0 (cellsRb b rg s.m iv ov)) 56)) (hR s.m s.g) [p, b, rg] := by
    refine ⟨hl, rfl, hnd, fun i o hi => ?_⟩
    rcases i with _ | _ | _ | i
    · simp only [hR, List.getElem?_cons_zero, Option.some.injEq] at hi; subst hi
      show (H.put p _).get p = _
      rw [hget, if_pos rfl]; rfl
    · simp only [hR, List.getElem?_cons_succ, List.getElem?_cons_zero, Option.some.injEq] at hi; subst hi
      show (H.put p _).get b = _
      rw [hget, if_neg hpb.symm, h2]; rfl
    · simp only [hR, List.getElem?_cons_succ, List.getElem?_cons_zero, Option.some.injEq] at hi; subst hi
      show (H.put p _).get rg = _
      rw [hget, if_neg hpr.symm, h3]; rfl
    · simp [hR] at hi
  have key : LCalls Try.prog 14 [ptr p] H _ := he.madeTok (c := cellsRb b rg s.m iv ov) (t := 56) (ps := [10, 11]) (b0 := p) (L := [p, b, rg]) (by rfl) hl h1 (by simp) hs hb hc (by rfl) (by rfl) (by rfl) (by
    intro o ho x hx
    simp only [hR, List.mem_cons, List.not_mem_nil, or_false] at ho
    rcases ho with rfl | rfl | rfl <;> (simp only [Option.some.injEq] at hx; subst hx)
    · refine ⟨rfl, ?_⟩
      show noTokL (cellsRb b rg m' iv ov) = true
      rw [noR, hn1, hn2]; rfl
    · exact ⟨rfl, rfl⟩
    · exact ⟨rfl, rfl⟩)
  refine key.mono ?_
  rintro u H' ⟨rfl, hM⟩
  refine ⟨rfl, ⟨hM.lock, by rw [hM.next]; omega, by rw [hM.next]; omega, hM.clean, fun i hi hO => hM.old i hi (fun h => hO (by simp at h ⊢; grind))⟩, _, _, ⟨b, rg, iv, ov, VI, VO, ⟨?_, ?_, ?_, ?_, ?_, h6⟩, rfl, rfl⟩, fun i hi => .inl hi, fun i hi => .inl hi⟩
  · exact hM.now 0 0 _ rfl rfl
  · exact hM.now 1 1 _ rfl rfl
  · exact hM.now 2 2 _ rfl rfl
  · refine h4.same fun i hi => hM.old i ?_ ?_
    · rcases h4 with ⟨_, rfl, _⟩ | ⟨_, x, rfl, _, hx⟩
      · cases hi
      · simp at hi; subst hi; exact hlt _ _ hx
    · intro hiL; exact (List.nodup_append.1 h6).2.2 i hiL i (by simp [hi]) rfl
  · refine h5.same fun i hi => hM.old i ?_ ?_
    · rcases h5 with ⟨_, rfl, _⟩ | ⟨_, x, rfl, _, hx⟩
      · cases hi
      · simp at hi; subst hi; exact hlt _ _ hx
    · intro hiL; exact (List.nodup_append.1 h6).2.2 i hiL i (by simp [hi]) rfl
end Go.Proofs.Ytpggoincnebfnaa
namespace Go.Proofs.Ytpggoincnebfnaa
open Go Go.Ly Go.RowKit
def eq26H (n m : Nat) (f g : Nat → Int) : List (Option LO) := [some (ints .u8 f n), some (ints .u8 g m)]
def eq26D : St := Ly.start Try.f26 [] H0
def eq26K : List KI := ((Ly.run env.bare 22 [] (Ly.start Try.f26 [sl 0 0, sl 1 0] (mkH (eq26H 0 0 (fun _ => 0) (fun _ => 0))))).st eq26D).top.k
def eq26V (n m : Nat) (i : Int) : List Value := slots 26 [(0, sl 0 n), (1, sl 1 m), (5, .int .i64 i)]
theorem eq26get : env.bare.fn.get 26 = some Try.f26 := by kernel_rfl
theorem eq260 (n m : Nat) (f g : Nat → Int) : headAt [0, 1, 5] [0, 1] eq26D (Ly.run env.bare 22 [(0, false)] (Ly.start Try.f26 [sl 0 n, sl 1 m] (mkH (eq26H n m f g)))) = (true, [((n : Int) != (m : Int), false)], true, (Try.f26, eq26K, none, 2), eq26V n m 0, eq26H n m f g) := by kernel_rfl
theorem eq26N (n m : Nat) (f g : Nat → Int) : (Ly.run env.bare 200 [(0, true)] (Ly.start Try.f26 [sl 0 n, sl 1 m] (mkH (eq26H n m f g)))).end? = some ([((n : Int) != (m : Int), true)], .bool false, mkH (eq26H n m f g)) := by kernel_rfl
theorem eq26I (n m : Nat) (f g : Nat → Int) (i : Int) : headAt [0, 1, 5] [0, 1] eq26D (Ly.run env.bare 23 [(0, true), (0, true), (0, true), (0, true), (0, true), (0, false)] (mkSt Try.f26 eq26K none 2 (eq26V n m i) (eq26H n m f g))) = (true, [(decide (i < (n : Int)), true), (decide (0 ≤ i) && decide (i < (n : Int)), true), (Nat.blt (0 + i.toNat * 1) n, true), (decide (0 ≤ i) && decide (i < (m : Int)), true), (Nat.blt (0 + i.toNat * 1) m, true), (f (0 + i.toNat * 1) != g (0 + i.toNat * 1), false)], true, (Try.f26, eq26K, none, 2), eq26V n m (IntKind.i64.wrap (i + 1)), eq26H n m f g) := by kernel_rfl
theorem eq26T (n m : Nat) (f g : Nat → Int) (i : Int) : (Ly.run env.bare 200 [(0, false)] (mkSt Try.f26 eq26K none 2 (eq26V n m i) (eq26H n m f g))).out? = some ([(decide (i < (n : Int)), false)], .bool true) := by kernel_rfl
theorem eq26E (n m : Nat) (f g : Nat → Int) (i : Int) : (Ly.run env.bare 200 [(0, true), (0, true), (0, true), (0, true), (0, true), (0, true)] (mkSt Try.f26 eq26K none 2 (eq26V n m i) (eq26H n m f g))).out? = some ([(decide (i < (n : Int)), true), (decide (0 ≤ i) && decide (i < (n : Int)), true), (Nat.blt (0 + i.toNat * 1) n, true), (decide (0 ≤ i) && decide (i < (m : Int)), true), (Nat.blt (0 + i.toNat * 1) m, true), (f (0 + i.toNat * 1) != g (0 + i.toNat * 1), true)], .bool false) := by kernel_rfl
theorem eq26P (n m : Nat) (f g : Nat → Int) : ∀ o ∈ eq26H n m f g, ∀ x, o = some x → plainO x := by
  intro o ho x hx
  simp only [eq26H, List.mem_cons, List.not_mem_nil, or_false] at ho
  rcases ho with rfl | rfl <;> (simp only [Option.some.injEq] at hx; subst hx; exact plain_ints)
theorem eq26loop (n : Nat) (f g : Nat → Int) (hn : n ≤ 9223372036854775807) : ∀ (d : Nat) (i : Int), 0 ≤ i → i ≤ n → ((n : Int) - i).toNat = d → (∀ e : Nat, (e : Int) < i → f e = g e) →
    MWp Try.prog (mkSt Try.f26 eq26K none 2 (eq26V n n i) (eq26H n n f g)) (fun v _ => v = .bool (eqU n f g))
  | 0, i, h0, h1, hd, he => by
    have hi : i = n := by omega
    refine MWp.out (Env.bare_ok envOk) 200 _ (eq26T n n f g i) (by simp [trusted]; omega) ?_
    intro _; rw [eqU_true (fun e h => he e (by omega))]
  | d + 1, i, h0, h1, hd, he => by
    have hi : i < n := by omega
    have ht : 0 + i.toNat * 1 = i.toNat := by omega
    have hlt : Nat.blt i.toNat n = true := by rw [Nat.blt_eq]; omega
    by_cases hf : f i.toNat = g i.toNat
    · refine MWp.head (Env.bare_ok envOk) _ _ _ _ (eq26I n n f g i) (by rw [ht]; simp [trusted, hf, hlt, hi, h0]) (eq26P n n f g) ?_
      have hw : IntKind.i64.wrap (i + 1) = i + 1 := by rw [IntKind.wrap_i64]; omega
      rw [hw]
      refine eq26loop n f g hn d (i + 1) (by omega) (by omega) (by omega) (fun e h => ?_)
      by_cases h2 : (e : Int) = i
      · have : e = i.toNat := by omega
        rw [this]; exact hf
      · exact he e (by omega)
    · refine MWp.out (Env.bare_ok envOk) 200 _ (eq26E n n f g i) (by rw [ht]; simp [trusted, hf, hlt, hi, h0]) ?_
      intro _; rw [eqU_false (e := i.toNat) (by omega) hf]
theorem eq26SS (n m : Nat) (f g : Nat → Int) (hn : n ≤ 9223372036854775807) : LCalls Try.prog 26 [sl 0 n, sl 1 m] (mkH [some (ints .u8 f n), some (ints .u8 g m)]) (fun u _ => u = .bool (Nat.beq n m && eqU n f g)) := by
  refine LCalls_of (Env.bare_ok envOk) eq26get (by kernel_rfl) ?_
  by_cases h : n = m
  · subst h
    refine MWp.head (Env.bare_ok envOk) _ _ _ _ (eq260 n n f g) (by simp [trusted]) (eq26P n n f g) ?_
    refine (eq26loop n f g hn _ 0 (by omega) (by omega) rfl (fun e h => by omega)).mono ?_
    rintro v H rfl
    simp
  · refine MWp.done (Env.bare_ok envOk) 200 _ (eq26N n m f g) (by simp [trusted]; omega) ?_
    have : Nat.beq n m = false := by
      cases hb : Nat.beq n m with
      | false => rfl
      | true => exact absurd (Nat.eq_of_beq_eq_true hb) h
    rw [this]; rfl
theorem eq26a (m : Nat) (q : Nat → Int) (b : Bool) : (Ly.run env.bare 200 [(0, b)] (Ly.start Try.f26 [.slice none 0 0, sl 0 m] (mkH [some (ints .u8 q m)]))).out? = some ([((0 : Int) != (m : Int), b)], .bool (!b)) := by cases b <;> kernel_rfl
theorem eq26NS (m : Nat) (q : Nat → Int) : LCalls Try.prog 26 [.slice none 0 0, sl 0 m] (mkH [some (ints .u8 q m)]) (fun u _ => u = .bool (Nat.beq 0 m)) := by
  by_cases h : m = 0
  · subst h
    exact LCalls_trust (Env.bare_ok envOk) 200 _ eq26get (by kernel_rfl) (eq26a 0 q false) (by simp [trusted])
  · have hb : Nat.beq 0 m = false := by rcases m with _ | m; exact absurd rfl h; rfl
    rw [hb]
    exact LCalls_trust (Env.bare_ok envOk) 200 _ eq26get (by kernel_rfl) (eq26a m q true) (by simp [trusted]; omega)
theorem eq26b (n : Nat) (q : Nat → Int) : (Ly.run env.bare 200 [(0, true)] (Ly.start Try.f26 [sl 0 n, .slice none 0 0] (mkH [some (ints .u8 q n)]))).out? = some ([((n : Int) != 0, true)], .bool false) := by kernel_rfl
theorem eq26c (q : Nat → Int) : (Ly.run env.bare 200 [] (Ly.start Try.f26 [sl 0 0, .slice none 0 0] (mkH [some (ints .u8 q 0)]))).out? = some ([], .bool true) := by kernel_rfl
theorem eq26SN (n : Nat) (p : Nat → Int) : LCalls Try.prog 26 [sl 0 n, .slice none 0 0] (mkH [some (ints .u8 p n)]) (fun u _ => u = .bool (Nat.beq n 0)) := by
  by_cases h : n = 0
  · subst h
    exact LCalls_trust (Env.bare_ok envOk) 200 _ eq26get (by kernel_rfl) (eq26c p) trivial
  · have hb : Nat.beq n 0 = false := by rcases n with _ | n; exact absurd rfl h; rfl
    rw [hb]
    exact LCalls_trust (Env.bare_ok envOk) 200 _ eq26get (by kernel_rfl) (eq26b n p) (by simp [trusted]; omega)
theorem eq26NN : LCalls Try.prog 26 [.slice none 0 0, .slice none 0 0] (mkH []) (fun u _ => u = .bool true) :=
  LCalls_trust (v := .bool true) (Env.bare_ok envOk) 200 [] eq26get (by kernel_rfl) (t := []) (by kernel_rfl) trivial
theorem eq26con : ∀ args ρ args' w H, VRL ρ args args' → Rep ρ H w → ConGood Try.prog ρ 26 args' w (conEq .u8 H args) := conEq_good eq26SS eq26NS eq26SN eq26NN
end Go.Proofs.Ytpggoincnebfnaa
namespace Go.Proofs.Ytpggoincnebfnaa
open Go Go.Ly Go.RowKit
def holdsF (c : Int) (s z p y : Bool) : Bool := bif c == 0 then !z else bif c == 1 then z else bif c == 2 then !y else bif c == 3 then y else bif c == 4 then !p else bif c == 5 then p else bif c == 6 then !s else bif c == 7 then s else false
def holdC (l : List Value) : Option (Bool × Value) := match l with
  | [.int .i64 c, .agg ⟨[.bool s, .bool z, .bool x, .bool p, .bool y]⟩] => some (true, .bool (holdsF c s z p y))
  | _ => none
theorem gH11 : ctxL.fn.get 11 = some Try.f11 := by kernel_rfl
def aliveC (l : List Value) : Option (Bool × Value) := match l with
  | [] => some (true, .bool true)
  | _ => none
theorem aliveR : (Ly.run ctxL 9000 [] (Ly.start Try.f11 [] H0)).out? = some ([], .bool true) := by kernel_rfl
theorem alive_ans : Answers Try.prog 11 aliveC := by
  intro args g v h hg
  unfold aliveC at h
  split at h
  · simp only [Option.some.injEq, Prod.mk.injEq] at h
    obtain ⟨rfl, rfl⟩ := h
    exact ⟨rfl, rfl, fun w => calls_trust ctxL_ok 9000 [] gH11 (by kernel_rfl) rfl rfl aliveR trivial w⟩
  · cases h
end Go.Proofs.Ytpggoincnebfnaa
namespace Go.Proofs.Ytpggoincnebfnaa
open Go Go.Ly Go.RowKit
def ctxQ : Ctx := ctx5.withC 26 (conEq .u8)
theorem ctxQ_ok : ctxQ.Ok Try.prog := ctx5_ok.withC eq26con
end Go.Proofs.Ytpggoincnebfnaa
namespace Go.Proofs.Ytpggoincnebfnaa
open Go Go.Ly Go.RowKit
def sameC (m : Mc) (g : Nat → Int) (i o i' o' : Value) (b rg b2 : Nat) (rp rr : List (Option LO)) : List (Option LO) := some (.cells (cellsPb b 0 m i o) 60) :: some (.cells (cellsRb b2 rg m i' o') 56) :: (rp ++ (some (memL g) :: some (regsR m) :: (rr ++ [some (memL g)])))
def gF (m : Mc) : Bool := !(m.fs == m.fs && (m.fz == m.fz && (m.fx == m.fx && (m.fp == m.fp && (m.fc == m.fc && true)))))
def tA (m : Mc) : List (Bool × Bool) := [(m.r0 != m.r0, false), (m.r1 != m.r1, false), (m.r2 != m.r2, false), (m.r3 != m.r3, false), (m.r4 != m.r4, false), (m.r5 != m.r5, false), (m.r7 != m.r7, false), (gF m == false, true), ((m.sp != m.sp) == false, true), ((m.pc != m.pc) == false, true), ((!(m.ie == m.ie)) == false, true), ((!(m.halt == m.halt)) == false, true)]
def gR (f : Nat → Int) (j n : Nat) : Rw := Rw.gen (n + 1) fun i _ => .int .u8 (f (j + i))
def eqR (f : Nat → Int) (j n : Nat) : Bool := !(Nat.beq (gR f j n).n (gR f j n).n && eqU (gR f j n).n (gR f j n).at (gR f j n).at)
def conR (f : Nat → Int) (j n N : Nat) : Bool := Nat.ble (j + (n + 1)) N && (Nat.ble (j + (n + 1)) N && ((gR f j n).ints .u8 && ((gR f j n).ints .u8 && Nat.ble (gR f j n).n 9223372036854775807)))
def tN (m : Mc) : List (Bool × Bool) := tA m
def tR' (m : Mc) (f : Nat → Int) (j n N : Nat) : List (Bool × Bool) := tA m ++ [(conR f j n N, true), (eqR f j n == false, true)]
def qq (q : Nat) : List (Bool × Bool) := [((q : Int) != (q : Int), false)]
def pth0 : Path := [(3, false), (3, false), (3, false), (3, false), (3, false), (3, false), (7, false), (2, true), (10, true), (10, true), (10, true), (10, true)]
def pthN (l : Path) : Path := pth0 ++ l
def pthR (l : Path) : Path := pth0 ++ [(9, true), (2, true)] ++ l
theorem tr_append : ∀ {a b : List (Bool × Bool)}, trusted a → trusted b → trusted (a ++ b)
  | [], _, _, h => h
  | (x, y) :: r, _, h, k => ⟨h.1, tr_append h.2 k⟩
theorem tN_ok (m : Mc) : trusted (tN m) := by simp [tN, tA, gF]
theorem tR_ok (m : Mc) {f : Nat → Int} {j n N : Nat} (h : j + (n + 1) ≤ N) (hn : n + 1 ≤ 9223372036854775807) : trusted (tR' m f j n N) := by
  have e1 : Nat.ble (j + (n + 1)) N = true := by rw [Nat.ble_eq]; exact h
  have e2 : (gR f j n).ints .u8 = true := by simp [gR, Rw.ints, isK, kbeq]
  have e3 : Nat.ble (gR f j n).n 9223372036854775807 = true := by rw [Nat.ble_eq]; exact hn
  have e4 : eqR f j n = false := by unfold eqR; rw [eqU_true (fun _ _ => rfl), Nat.beq_refl]; rfl
  have e5 : conR f j n N = true := by unfold conR; rw [e1, e2, e3]; rfl
  exact tr_append (tN_ok m) ⟨e5, by rw [e4]; rfl, trivial⟩
theorem qq_ok (q : Nat) : trusted (qq q) := by simp [qq]
def rgD : St := Ly.start Try.f39 [] H0
theorem gRg39 : ctxQ.fn.get 39 = some Try.f39 := by kernel_rfl
def rgS (os : List (Option LO)) : St := Ly.start Try.f39 [ptr 0, ptr 1] (mkH os)
def mz : Mc := ⟨0, 0, 0, 0, 0, 0, 0, false, false, false, false, false, 0, 0, false, false⟩
end Go.Proofs.Ytpggoincnebfnaa
namespace Go.Proofs.Ytpggoincnebfnaa
open Go Go.Ly Go.RowKit
theorem re_nn (m : Mc) (g f fp fb : Nat → Int) (j n N q : Nat) : (Ly.run ctxQ 3000 (pthN []) (rgS (sameC m g nilV nilV nilV nilV 2 3 4 [] []))).end? = some (tN m, .bool true, mkH (sameC m g nilV nilV nilV nilV 2 3 4 [] [])) := by kernel_rfl
theorem rl_nn0 (m : Mc) (g f fp fb : Nat → Int) (j n N q : Nat) (h : j + (n + 1) ≤ N) (hn : n + 1 ≤ 9223372036854775807) : LCalls Try.prog 39 [ptr 0, ptr 1] (mkH (sameC m g nilV nilV nilV nilV 2 3 4 [] [])) (fun u K => u = .bool true ∧ K = mkH (sameC m g nilV nilV nilV nilV 2 3 4 [] [])) :=
  LCalls_of ctxQ_ok gRg39 (by kernel_rfl) (MWp.done ctxQ_ok 3000 _ (re_nn m g f fp fb j n N q) (tN_ok m) ⟨rfl, rfl⟩)
theorem re_ne (m : Mc) (g f fp fb : Nat → Int) (j n N q : Nat) : (Ly.run ctxQ 3000 (pthN []) (rgS (sameC m g nilV nilV (empV 1) nilV 2 3 4 [] []))).end? = some (tN m, .bool true, mkH (sameC m g nilV nilV (empV 1) nilV 2 3 4 [] [])) := by kernel_rfl
theorem rl_ne0 (m : Mc) (g f fp fb : Nat → Int) (j n N q : Nat) (h : j + (n + 1) ≤ N) (hn : n + 1 ≤ 9223372036854775807) : LCalls Try.prog 39 [ptr 0, ptr 1] (mkH (sameC m g nilV nilV (empV 1) nilV 2 3 4 [] [])) (fun u K => u = .bool true ∧ K = mkH (sameC m g nilV nilV (empV 1) nilV 2 3 4 [] [])) :=
  LCalls_of ctxQ_ok gRg39 (by kernel_rfl) (MWp.done ctxQ_ok 3000 _ (re_ne m g f fp fb j n N q) (tN_ok m) ⟨rfl, rfl⟩)
theorem re_en (m : Mc) (g f fp fb : Nat → Int) (j n N q : Nat) : (Ly.run ctxQ 3000 (pthN []) (rgS (sameC m g (empV 0) nilV nilV nilV 2 3 4 [] []))).end? = some (tN m, .bool true, mkH (sameC m g (empV 0) nilV nilV nilV 2 3 4 [] [])) := by kernel_rfl
theorem rl_en0 (m : Mc) (g f fp fb : Nat → Int) (j n N q : Nat) (h : j + (n + 1) ≤ N) (hn : n + 1 ≤ 9223372036854775807) : LCalls Try.prog 39 [ptr 0, ptr 1] (mkH (sameC m g (empV 0) nilV nilV nilV 2 3 4 [] [])) (fun u K => u = .bool true ∧ K = mkH (sameC m g (empV 0) nilV nilV nilV 2 3 4 [] [])) :=
  LCalls_of ctxQ_ok gRg39 (by kernel_rfl) (MWp.done ctxQ_ok 3000 _ (re_en m g f fp fb j n N q) (tN_ok m) ⟨rfl, rfl⟩)
theorem re_ee (m : Mc) (g f fp fb : Nat → Int) (j n N q : Nat) : (Ly.run ctxQ 3000 (pthN []) (rgS (sameC m g (empV 0) nilV (empV 1) nilV 2 3 4 [] []))).end? = some (tN m, .bool true, mkH (sameC m g (empV 0) nilV (empV 1) nilV 2 3 4 [] [])) := by kernel_rfl
theorem rl_ee0 (m : Mc) (g f fp fb : Nat → Int) (j n N q : Nat) (h : j + (n + 1) ≤ N) (hn : n + 1 ≤ 9223372036854775807) : LCalls Try.prog 39 [ptr 0, ptr 1] (mkH (sameC m g (empV 0) nilV (empV 1) nilV 2 3 4 [] [])) (fun u K => u = .bool true ∧ K = mkH (sameC m g (empV 0) nilV (empV 1) nilV 2 3 4 [] [])) :=
  LCalls_of ctxQ_ok gRg39 (by kernel_rfl) (MWp.done ctxQ_ok 3000 _ (re_ee m g f fp fb j n N q) (tN_ok m) ⟨rfl, rfl⟩)
theorem re_rr (m : Mc) (g f fp fb : Nat → Int) (j n N q : Nat) : (Ly.run ctxQ 3000 (pthR []) (rgS (sameC m g (inV 2 j (n + 1)) nilV (inV 5 j (n + 1)) nilV 3 4 6 [some (rowP f N)] [some (rowR f N)]))).end? = some (tR' m f j n N, .bool true, mkH (sameC m g (inV 2 j (n + 1)) nilV (inV 5 j (n + 1)) nilV 3 4 6 [some (rowP f N)] [some (rowR f N)])) := by kernel_rfl
theorem rl_rr0 (m : Mc) (g f fp fb : Nat → Int) (j n N q : Nat) (h : j + (n + 1) ≤ N) (hn : n + 1 ≤ 9223372036854775807) : LCalls Try.prog 39 [ptr 0, ptr 1] (mkH (sameC m g (inV 2 j (n + 1)) nilV (inV 5 j (n + 1)) nilV 3 4 6 [some (rowP f N)] [some (rowR f N)])) (fun u K => u = .bool true ∧ K = mkH (sameC m g (inV 2 j (n + 1)) nilV (inV 5 j (n + 1)) nilV 3 4 6 [some (rowP f N)] [some (rowR f N)])) :=
  LCalls_of ctxQ_ok gRg39 (by kernel_rfl) (MWp.done ctxQ_ok 3000 _ (re_rr m g f fp fb j n N q) (tR_ok m h hn) ⟨rfl, rfl⟩)
end Go.Proofs.Ytpggoincnebfnaa
namespace Go.Proofs.Ytpggoincnebfnaa
open Go Go.Ly Go.RowKit
def rgK : List KI := ((Ly.run ctxQ 199 (pthN [(25, false)]) (rgS (sameC mz (fun _ => 0) nilV (sls 2 1) nilV (sls 5 1) 3 4 6 [some (outF (fun _ => 0) (fun _ => 0) 1)] [some (outF (fun _ => 0) (fun _ => 0) 1)]))).st rgD).top.k
def rgL (nb : Nat) (os : List (Option LO)) (d : Int) : St := atSt Try.f39 rgK none nb (slots 137 [(0, ptr 0), (1, ptr 1), (6, .int .i64 d)]) (mkH os)
def tL (fp fb : Nat → Int) (q : Nat) (d : Int) : List (Bool × Bool) := [(decide (d < (q : Int)), true), (decide (0 ≤ d) && decide (d < (q : Int)), true), (Nat.blt (0 + d.toNat) q, true), (decide (0 ≤ d) && decide (d < (q : Int)), true), (Nat.blt (0 + d.toNat) q, true), (!(fp (0 + d.toNat) == fp (0 + d.toNat) && (fb (0 + d.toNat) == fb (0 + d.toNat) && true)), false)]
theorem tL_ok {fp fb : Nat → Int} {q : Nat} {d : Int} (h0 : 0 ≤ d) (h1 : d < q) : trusted (tL fp fb q d) := by
  have e : Nat.blt (0 + d.toNat) q = true := by rw [Nat.blt_eq]; omega
  simp [tL, h0, h1, e]
theorem rh_nn (m : Mc) (g f fp fb : Nat → Int) (j n N q : Nat) : haltF [0, 1, 6] rgD (Ly.run ctxQ 199 (pthN [(25, false)]) (rgS (sameC m g nilV (sls 2 q) nilV (sls 5 q) 3 4 6 [some (outF fp fb q)] [some (outF fp fb q)]))) = (true, tN m ++ qq q, true, (Try.f39, rgK, none, 7), slots 137 [(0, ptr 0), (1, ptr 1), (6, .int .i64 0)], mkH (sameC m g nilV (sls 2 q) nilV (sls 5 q) 3 4 6 [some (outF fp fb q)] [some (outF fp fb q)])) := by kernel_rfl
theorem ri_nn (m : Mc) (g f fp fb : Nat → Int) (j n N q : Nat) (d : Int) : haltF [0, 1, 6] rgD (Ly.run ctxQ 44 [(0, true), (0, true), (0, true), (0, true), (0, true), (0, false)] (rgL 7 (sameC m g nilV (sls 2 q) nilV (sls 5 q) 3 4 6 [some (outF fp fb q)] [some (outF fp fb q)]) d)) = (true, tL fp fb q d, true, (Try.f39, rgK, none, 7), slots 137 [(0, ptr 0), (1, ptr 1), (6, .int .i64 (IntKind.i64.wrap (d + 1)))], mkH (sameC m g nilV (sls 2 q) nilV (sls 5 q) 3 4 6 [some (outF fp fb q)] [some (outF fp fb q)])) := by kernel_rfl
theorem rx_nn (m : Mc) (g f fp fb : Nat → Int) (j n N q : Nat) (d : Int) : (Ly.run ctxQ 100 [(0, false)] (rgL 7 (sameC m g nilV (sls 2 q) nilV (sls 5 q) 3 4 6 [some (outF fp fb q)] [some (outF fp fb q)]) d)).end? = some ([(decide (d < (q : Int)), false)], .bool true, mkH (sameC m g nilV (sls 2 q) nilV (sls 5 q) 3 4 6 [some (outF fp fb q)] [some (outF fp fb q)])) := by kernel_rfl
theorem rq_nn (m : Mc) (g f fp fb : Nat → Int) (j n N q : Nat) (hq : q ≤ 9223372036854775806) : ∀ (r : Nat) (d : Int), 0 ≤ d → d ≤ q → (q - d).toNat = r → MWp Try.prog (rgL 7 (sameC m g nilV (sls 2 q) nilV (sls 5 q) 3 4 6 [some (outF fp fb q)] [some (outF fp fb q)]) d) (fun u K => u = .bool true ∧ K = mkH (sameC m g nilV (sls 2 q) nilV (sls 5 q) 3 4 6 [some (outF fp fb q)] [some (outF fp fb q)]))
  | 0, d, h0, h1, hr => MWp.done ctxQ_ok 100 _ (rx_nn m g f fp fb j n N q d) (by simp; omega) ⟨rfl, rfl⟩
  | r + 1, d, h0, h1, hr => by
    have hw : IntKind.i64.wrap (d + 1) = d + 1 := by rw [IntKind.wrap_i64]; omega
    refine MWp.halted ctxQ_ok [0, 1, 6] _ _ (ri_nn m g f fp fb j n N q d) (tL_ok h0 (by omega)) ?_
    rw [hw]
    exact rq_nn m g f fp fb j n N q hq r (d + 1) (by omega) (by omega) (by omega)
theorem rl_nn1 (m : Mc) (g f fp fb : Nat → Int) (j n N q : Nat) (h : j + (n + 1) ≤ N) (hn : n + 1 ≤ 9223372036854775807) (hq : q ≤ 9223372036854775806) : LCalls Try.prog 39 [ptr 0, ptr 1] (mkH (sameC m g nilV (sls 2 q) nilV (sls 5 q) 3 4 6 [some (outF fp fb q)] [some (outF fp fb q)])) (fun u K => u = .bool true ∧ K = mkH (sameC m g nilV (sls 2 q) nilV (sls 5 q) 3 4 6 [some (outF fp fb q)] [some (outF fp fb q)])) := by
  refine LCalls_of ctxQ_ok gRg39 (by kernel_rfl) (MWp.halted ctxQ_ok [0, 1, 6] _ _ (rh_nn m g f fp fb j n N q) (tr_append (tN_ok m) (qq_ok q)) ?_)
  exact rq_nn m g f fp fb j n N q hq _ 0 (by omega) (by omega) rfl
theorem rh_ne (m : Mc) (g f fp fb : Nat → Int) (j n N q : Nat) : haltF [0, 1, 6] rgD (Ly.run ctxQ 199 (pthN [(25, false)]) (rgS (sameC m g nilV (sls 2 q) (empV 1) (sls 5 q) 3 4 6 [some (outF fp fb q)] [some (outF fp fb q)]))) = (true, tN m ++ qq q, true, (Try.f39, rgK, none, 7), slots 137 [(0, ptr 0), (1, ptr 1), (6, .int .i64 0)], mkH (sameC m g nilV (sls 2 q) (empV 1) (sls 5 q) 3 4 6 [some (outF fp fb q)] [some (outF fp fb q)])) := by kernel_rfl
theorem ri_ne (m : Mc) (g f fp fb : Nat → Int) (j n N q : Nat) (d : Int) : haltF [0, 1, 6] rgD (Ly.run ctxQ 44 [(0, true), (0, true), (0, true), (0, true), (0, true), (0, false)] (rgL 7 (sameC m g nilV (sls 2 q) (empV 1) (sls 5 q) 3 4 6 [some (outF fp fb q)] [some (outF fp fb q)]) d)) = (true, tL fp fb q d, true, (Try.f39, rgK, none, 7), slots 137 [(0, ptr 0), (1, ptr 1), (6, .int .i64 (IntKind.i64.wrap (d + 1)))], mkH (sameC m g nilV (sls 2 q) (empV 1) (sls 5 q) 3 4 6 [some (outF fp fb q)] [some (outF fp fb q)])) := by kernel_rfl
theorem rx_ne (m : Mc) (g f fp fb : Nat → Int) (j n N q : Nat) (d : Int) : (Ly.run ctxQ 100 [(0, false)] (rgL 7 (sameC m g nilV (sls 2 q) (empV 1) (sls 5 q) 3 4 6 [some (outF fp fb q)] [some (outF fp fb q)]) d)).end? = some ([(decide (d < (q : Int)), false)], .bool true, mkH (sameC m g nilV (sls 2 q) (empV 1) (sls 5 q) 3 4 6 [some (outF fp fb q)] [some (outF fp fb q)])) := by kernel_rfl
theorem rq_ne (m : Mc) (g f fp fb : Nat → Int) (j n N q : Nat) (hq : q ≤ 9223372036854775806) : ∀ (r : Nat) (d : Int), 0 ≤ d → d ≤ q → (q - d).toNat = r → MWp Try.prog (rgL 7 (sameC m g nilV (sls 2 q) (empV 1) (sls 5 q) 3 4 6 [some (outF fp fb q)] [some (outF fp fb q)]) d) (fun u K => u = .bool true ∧ K = mkH (sameC m g nilV (sls 2 q) (empV 1) (sls 5 q) 3 4 6 [some (outF fp fb q)] [some (outF fp fb q)]))
  | 0, d, h0, h1, hr => MWp.done ctxQ_ok 100 _ (rx_ne m g f fp fb j n N q d) (by simp; omega) ⟨rfl, rfl⟩
  | r + 1, d, h0, h1, hr => by
    have hw : IntKind.i64.wrap (d + 1) = d + 1 := by rw [IntKind.wrap_i64]; omega
    refine MWp.halted ctxQ_ok [0, 1, 6] _ _ (ri_ne m g f fp fb j n N q d) (tL_ok h0 (by omega)) ?_
    rw [hw]
    exact rq_ne m g f fp fb j n N q hq r (d + 1) (by omega) (by omega) (by omega)
theorem rl_ne1 (m : Mc) (g f fp fb : Nat → Int) (j n N q : Nat) (h : j + (n + 1) ≤ N) (hn : n + 1 ≤ 9223372036854775807) (hq : q ≤ 9223372036854775806) : LCalls Try.prog 39 [ptr 0, ptr 1] (mkH (sameC m g nilV (sls 2 q) (empV 1) (sls 5 q) 3 4 6 [some (outF fp fb q)] [some (outF fp fb q)])) (fun u K => u = .bool true ∧ K = mkH (sameC m g nilV (sls 2 q) (empV 1) (sls 5 q) 3 4 6 [some (outF fp fb q)] [some (outF fp fb q)])) := by
  refine LCalls_of ctxQ_ok gRg39 (by kernel_rfl) (MWp.halted ctxQ_ok [0, 1, 6] _ _ (rh_ne m g f fp fb j n N q) (tr_append (tN_ok m) (qq_ok q)) ?_)
  exact rq_ne m g f fp fb j n N q hq _ 0 (by omega) (by omega) rfl
theorem rh_en (m : Mc) (g f fp fb : Nat → Int) (j n N q : Nat) : haltF [0, 1, 6] rgD (Ly.run ctxQ 199 (pthN [(25, false)]) (rgS (sameC m g (empV 0) (sls 2 q) nilV (sls 5 q) 3 4 6 [some (outF fp fb q)] [some (outF fp fb q)]))) = (true, tN m ++ qq q, true, (Try.f39, rgK, none, 7), slots 137 [(0, ptr 0), (1, ptr 1), (6, .int .i64 0)], mkH (sameC m g (empV 0) (sls 2 q) nilV (sls 5 q) 3 4 6 [some (outF fp fb q)] [some (outF fp fb q)])) := by kernel_rfl
theorem ri_en (m : Mc) (g f fp fb : Nat → Int) (j n N q : Nat) (d : Int) : haltF [0, 1, 6] rgD (Ly.run ctxQ 44 [(0, true), (0, true), (0, true), (0, true), (0, true), (0, false)] (rgL 7 (sameC m g (empV 0) (sls 2 q) nilV (sls 5 q) 3 4 6 [some (outF fp fb q)] [some (outF fp fb q)]) d)) = (true, tL fp fb q d, true, (Try.f39, rgK, none, 7), slots 137 [(0, ptr 0), (1, ptr 1), (6, .int .i64 (IntKind.i64.wrap (d + 1)))], mkH (sameC m g (empV 0) (sls 2 q) nilV (sls 5 q) 3 4 6 [some (outF fp fb q)] [some (outF fp fb q)])) := by kernel_rfl
theorem rx_en (m : Mc) (g f fp fb : Nat → Int) (j n N q : Nat) (d : Int) : (Ly.run ctxQ 100 [(0, false)] (rgL 7 (sameC m g (empV 0) (sls 2 q) nilV (sls 5 q) 3 4 6 [some (outF fp fb q)] [some (outF fp fb q)]) d)).end? = some ([(decide (d < (q : Int)), false)], .bool true, mkH (sameC m g (empV 0) (sls 2 q) nilV (sls 5 q) 3 4 6 [some (outF fp fb q)] [some (outF fp fb q)])) := by kernel_rfl
theorem rq_en (m : Mc) (g f fp fb : Nat → Int) (j n N q : Nat) (hq : q ≤ 9223372036854775806) : ∀ (r : Nat) (d : Int), 0 ≤ d → d ≤ q → (q - d).toNat = r → MWp Try.prog (rgL 7 (sameC m g (empV 0) (sls 2 q) nilV (sls 5 q) 3 4 6 [some (outF fp fb q)] [some (outF fp fb q)]) d) (fun u K => u = .bool true ∧ K = mkH (sameC m g (empV 0) (sls 2 q) nilV (sls 5 q) 3 4 6 [some (outF fp fb q)] [some (outF fp fb q)]))
  | 0, d, h0, h1, hr => MWp.done ctxQ_ok 100 _ (rx_en m g f fp fb j n N q d) (by simp; omega) ⟨rfl, rfl⟩
  | r + 1, d, h0, h1, hr => by
    have hw : IntKind.i64.wrap (d + 1) = d + 1 := by rw [IntKind.wrap_i64]; omega
    refine MWp.halted ctxQ_ok [0, 1, 6] _ _ (ri_en m g f fp fb j n N q d) (tL_ok h0 (by omega)) ?_
    rw [hw]
    exact rq_en m g f fp fb j n N q hq r (d + 1) (by omega) (by omega) (by omega)
theorem rl_en1 (m : Mc) (g f fp fb : Nat → Int) (j n N q : Nat) (h : j + (n + 1) ≤ N) (hn : n + 1 ≤ 9223372036854775807) (hq : q ≤ 9223372036854775806) : LCalls Try.prog 39 [ptr 0, ptr 1] (mkH (sameC m g (empV 0) (sls 2 q) nilV (sls 5 q) 3 4 6 [some (outF fp fb q)] [some (outF fp fb q)])) (fun u K => u = .bool true ∧ K = mkH (sameC m g (empV 0) (sls 2 q) nilV (sls 5 q) 3 4 6 [some (outF fp fb q)] [some (outF fp fb q)])) := by
  refine LCalls_of ctxQ_ok gRg39 (by kernel_rfl) (MWp.halted ctxQ_ok [0, 1, 6] _ _ (rh_en m g f fp fb j n N q) (tr_append (tN_ok m) (qq_ok q)) ?_)
  exact rq_en m g f fp fb j n N q hq _ 0 (by omega) (by omega) rfl
theorem rh_ee (m : Mc) (g f fp fb : Nat → Int) (j n N q : Nat) : haltF [0, 1, 6] rgD (Ly.run ctxQ 199 (pthN [(25, false)]) (rgS (sameC m g (empV 0) (sls 2 q) (empV 1) (sls 5 q) 3 4 6 [some (outF fp fb q)] [some (outF fp fb q)]))) = (true, tN m ++ qq q, true, (Try.f39, rgK, none, 7), slots 137 [(0, ptr 0), (1, ptr 1), (6, .int .i64 0)], mkH (sameC m g (empV 0) (sls 2 q) (empV 1) (sls 5 q) 3 4 6 [some (outF fp fb q)] [some (outF fp fb q)])) := by kernel_rfl
theorem ri_ee (m : Mc) (g f fp fb : Nat → Int) (j n N q : Nat) (d : Int) : haltF [0, 1, 6] rgD (Ly.run ctxQ 44 [(0, true), (0, true), (0, true), (0, true), (0, true), (0, false)] (rgL 7 (sameC m g (empV 0) (sls 2 q) (empV 1) (sls 5 q) 3 4 6 [some (outF fp fb q)] [some (outF fp fb q)]) d)) = (true, tL fp fb q d, true, (Try.f39, rgK, none, 7), slots 137 [(0, ptr 0), (1, ptr 1), (6, .int .i64 (IntKind.i64.wrap (d + 1)))], mkH (sameC m g (empV 0) (sls 2 q) (empV 1) (sls 5 q) 3 4 6 [some (outF fp fb q)] [some (outF fp fb q)])) := by kernel_rfl
theorem rx_ee (m : Mc) (g f fp fb : Nat → Int) (j n N q : Nat) (d : Int) : (Ly.run ctxQ 100 [(0, false)] (rgL 7 (sameC m g (empV 0) (sls 2 q) (empV 1) (sls 5 q) 3 4 6 [some (outF fp fb q)] [some (outF fp fb q)]) d)).end? = some ([(decide (d < (q : Int)), false)], .bool true, mkH (sameC m g (empV 0) (sls 2 q) (empV 1) (sls 5 q) 3 4 6 [some (outF fp fb q)] [some (outF fp fb q)])) := by kernel_rfl
theorem rq_ee (m : Mc) (g f fp fb : Nat → Int) (j n N q : Nat) (hq : q ≤ 9223372036854775806) : ∀ (r : Nat) (d : Int), 0 ≤ d → d ≤ q → (q - d).toNat = r → MWp Try.prog (rgL 7 (sameC m g (empV 0) (sls 2 q) (empV 1) (sls 5 q) 3 4 6 [some (outF fp fb q)] [some (outF fp fb q)]) d) (fun u K => u = .bool true ∧ K = mkH (sameC m g (empV 0) (sls 2 q) (empV 1) (sls 5 q) 3 4 6 [some (outF fp fb q)] [some (outF fp fb q)]))
  | 0, d, h0, h1, hr => MWp.done ctxQ_ok 100 _ (rx_ee m g f fp fb j n N q d) (by simp; omega) ⟨rfl, rfl⟩
  | r + 1, d, h0, h1, hr => by
    have hw : IntKind.i64.wrap (d + 1) = d + 1 := by rw [IntKind.wrap_i64]; omega
    refine MWp.halted ctxQ_ok [0, 1, 6] _ _ (ri_ee m g f fp fb j n N q d) (tL_ok h0 (by omega)) ?_
    rw [hw]
    exact rq_ee m g f fp fb j n N q hq r (d + 1) (by omega) (by omega) (by omega)
theorem rl_ee1 (m : Mc) (g f fp fb : Nat → Int) (j n N q : Nat) (h : j + (n + 1) ≤ N) (hn : n + 1 ≤ 9223372036854775807) (hq : q ≤ 9223372036854775806) : LCalls Try.prog 39 [ptr 0, ptr 1] (mkH (sameC m g (empV 0) (sls 2 q) (empV 1) (sls 5 q) 3 4 6 [some (outF fp fb q)] [some (outF fp fb q)])) (fun u K => u = .bool true ∧ K = mkH (sameC m g (empV 0) (sls 2 q) (empV 1) (sls 5 q) 3 4 6 [some (outF fp fb q)] [some (outF fp fb q)])) := by
  refine LCalls_of ctxQ_ok gRg39 (by kernel_rfl) (MWp.halted ctxQ_ok [0, 1, 6] _ _ (rh_ee m g f fp fb j n N q) (tr_append (tN_ok m) (qq_ok q)) ?_)
  exact rq_ee m g f fp fb j n N q hq _ 0 (by omega) (by omega) rfl
theorem rh_rr (m : Mc) (g f fp fb : Nat → Int) (j n N q : Nat) : haltF [0, 1, 6] rgD (Ly.run ctxQ 199 (pthR [(12, false)]) (rgS (sameC m g (inV 2 j (n + 1)) (sls 3 q) (inV 6 j (n + 1)) (sls 7 q) 4 5 8 [some (rowP f N), some (outF fp fb q)] [some (rowR f N), some (outF fp fb q)]))) = (true, tR' m f j n N ++ qq q, true, (Try.f39, rgK, none, 9), slots 137 [(0, ptr 0), (1, ptr 1), (6, .int .i64 0)], mkH (sameC m g (inV 2 j (n + 1)) (sls 3 q) (inV 6 j (n + 1)) (sls 7 q) 4 5 8 [some (rowP f N), some (outF fp fb q)] [some (rowR f N), some (outF fp fb q)])) := by kernel_rfl
theorem ri_rr (m : Mc) (g f fp fb : Nat → Int) (j n N q : Nat) (d : Int) : haltF [0, 1, 6] rgD (Ly.run ctxQ 44 [(0, true), (0, true), (0, true), (0, true), (0, true), (0, false)] (rgL 9 (sameC m g (inV 2 j (n + 1)) (sls 3 q) (inV 6 j (n + 1)) (sls 7 q) 4 5 8 [some (rowP f N), some (outF fp fb q)] [some (rowR f N), some (outF fp fb q)]) d)) = (true, tL fp fb q d, true, (Try.f39, rgK, none, 9), slots 137 [(0, ptr 0), (1, ptr 1), (6, .int .i64 (IntKind.i64.wrap (d + 1)))], mkH (sameC m g (inV 2 j (n + 1)) (sls 3 q) (inV 6 j (n + 1)) (sls 7 q) 4 5 8 [some (rowP f N), some (outF fp fb q)] [some (rowR f N), some (outF fp fb q)])) := by kernel_rfl
theorem rx_rr (m : Mc) (g f fp fb : Nat → Int) (j n N q : Nat) (d : Int) : (Ly.run ctxQ 100 [(0, false)] (rgL 9 (sameC m g (inV 2 j (n + 1)) (sls 3 q) (inV 6 j (n + 1)) (sls 7 q) 4 5 8 [some (rowP f N), some (outF fp fb q)] [some (rowR f N), some (outF fp fb q)]) d)).end? = some ([(decide (d < (q : Int)), false)], .bool true, mkH (sameC m g (inV 2 j (n + 1)) (sls 3 q) (inV 6 j (n + 1)) (sls 7 q) 4 5 8 [some (rowP f N), some (outF fp fb q)] [some (rowR f N), some (outF fp fb q)])) := by kernel_rfl
theorem rq_rr (m : Mc) (g f fp fb : Nat → Int) (j n N q : Nat) (hq : q ≤ 9223372036854775806) : ∀ (r : Nat) (d : Int), 0 ≤ d → d ≤ q → (q - d).toNat = r → MWp Try.prog (rgL 9 (sameC m g (inV 2 j (n + 1)) (sls 3 q) (inV 6 j (n + 1)) (sls 7 q) 4 5 8 [some (rowP f N), some (outF fp fb q)] [some (rowR f N), some (outF fp fb q)]) d) (fun u K => u = .bool true ∧ K = mkH (sameC m g (inV 2 j (n + 1)) (sls 3 q) (inV 6 j (n + 1)) (sls 7 q) 4 5 8 [some (rowP f N), some (outF fp fb q)] [some (rowR f N), some (outF fp fb q)]))
  | 0, d, h0, h1, hr => MWp.done ctxQ_ok 100 _ (rx_rr m g f fp fb j n N q d) (by simp; omega) ⟨rfl, rfl⟩
  | r + 1, d, h0, h1, hr => by
    have hw : IntKind.i64.wrap (d + 1) = d + 1 := by rw [IntKind.wrap_i64]; omega
    refine MWp.halted ctxQ_ok [0, 1, 6] _ _ (ri_rr m g f fp fb j n N q d) (tL_ok h0 (by omega)) ?_
    rw [hw]
    exact rq_rr m g f fp fb j n N q hq r (d + 1) (by omega) (by omega) (by omega)
theorem rl_rr1 (m : Mc) (g f fp fb : Nat → Int) (j n N q : Nat) (h : j + (n + 1) ≤ N) (hn : n + 1 ≤ 9223372036854775807) (hq : q ≤ 9223372036854775806) : LCalls Try.prog 39 [ptr 0, ptr 1] (mkH (sameC m g (inV 2 j (n + 1)) (sls 3 q) (inV 6 j (n + 1)) (sls 7 q) 4 5 8 [some (rowP f N), some (outF fp fb q)] [some (rowR f N), some (outF fp fb q)])) (fun u K => u = .bool true ∧ K = mkH (sameC m g (inV 2 j (n + 1)) (sls 3 q) (inV 6 j (n + 1)) (sls 7 q) 4 5 8 [some (rowP f N), some (outF fp fb q)] [some (rowR f N), some (outF fp fb q)])) := by
  refine LCalls_of ctxQ_ok gRg39 (by kernel_rfl) (MWp.halted ctxQ_ok [0, 1, 6] _ _ (rh_rr m g f fp fb j n N q) (tr_append (tR_ok m h hn) (qq_ok q)) ?_)
  exact rq_rr m g f fp fb j n N q hq _ 0 (by omega) (by omega) rfl
end Go.Proofs.Ytpggoincnebfnaa
namespace Go.Proofs.Ytpggoincnebfnaa
open Go Go.Ly Go.RowKit
structure WeakAt (H K : Heap) (p : Nat) : Prop where
  weak : WeakH H K
  lock : K.lock = H.lock
  next : K.next = H.next
  clean : Ly.Clean K
  old : ∀ i, i ≠ p → K.get i = H.get i
theorem emp_P {H : Heap} {p b rg : Nat} {s : Js} {a : Addr} {c : Nat} {ov : Value} {VO : List Nat} (h : Pm H p b rg s (.slice (some a) 0 c) ov [] VO) (hj : s.j = s.N) (hc : Ly.Clean H) (hp : p < big) :
    ∃ K, WeakAt H K p ∧ Pm K p b rg s (empV p) ov [] VO := by
  have hget := fun i => Heap.get_put (H := H) (o := .cells (cellsPb b rg s.m (empV p) ov) 60) hp i
  have hpb : p ≠ b := by intro e; have := h.nd; simp [e] at this
  refine ⟨H.put p (.cells (cellsPb b rg s.m (empV p) ov) 60), ⟨⟨rfl, rfl, fun i o hi => ?_⟩, rfl, rfl, fun i o hi => ?_, fun i hi => by rw [hget, if_neg hi]⟩, ?_⟩
  · rw [hget] at hi
    split at hi
    · rename_i e; subst e
      simp only [Option.some.injEq] at hi; subst hi
      refine ⟨_, h.cells, OW.cells ?_⟩
      simp only [cellsPb, VWL]
      exact ⟨_, _, VW.refl _, ⟨_, _, VW.refl _, ⟨_, _, VW.refl _, ⟨_, _, VW.refl _, ⟨_, _, VW.refl _, ⟨_, _, VW.refl _, ⟨_, _, VW.refl _, ⟨_, _, VW.refl _, ⟨_, _, VW.refl _, ⟨_, _, VW.refl _, ⟨_, _, VW.refl _, ⟨_, _, VW.refl _, ⟨_, _, VW.refl _, ⟨_, _, VW.refl _, ⟨_, _, VW.refl _, ⟨_, _, VW.refl _, ⟨_, _, VW.refl _, ⟨_, _, VW.empty _ _ _, ⟨_, _, VW.refl _, ⟨_, _, VW.refl _, rfl, rfl⟩, rfl⟩, rfl⟩, rfl⟩, rfl⟩, rfl⟩, rfl⟩, rfl⟩, rfl⟩, rfl⟩, rfl⟩, rfl⟩, rfl⟩, rfl⟩, rfl⟩, rfl⟩, rfl⟩, rfl⟩, rfl⟩, rfl⟩
    · exact ⟨o, hi, OW.refl o⟩
  · rw [hget] at hi
    split at hi
    · simp only [Option.some.injEq] at hi; subst hi
      show noTokL _ = true
      rw [noP, h.out.noTok]; rfl
    · exact hc i o hi
  · refine ⟨by rw [hget, if_pos rfl], by rw [hget, if_neg hpb.symm]; exact h.mem, h.regs, .inl ⟨hj, rfl, .inr ⟨_, _, rfl⟩⟩, h.out.same fun i hi => ?_, h.nd⟩
    rw [hget, if_neg]
    intro e
    exact (List.nodup_append.1 h.nd).2.2 p (by simp) i (by simp [hi]) e.symm
theorem emp_R {H : Heap} {p b rg : Nat} {s : Js} {a : Addr} {c : Nat} {ov : Value} {VO : List Nat} (h : Rm H p b rg s (.slice (some a) 0 c) ov [] VO) (hj : s.j = s.N) (hc : Ly.Clean H) (hp : p < big) :
    ∃ K, WeakAt H K p ∧ Rm K p b rg s (empV p) ov [] VO := by
  have hget := fun i => Heap.get_put (H := H) (o := .cells (cellsRb b rg s.m (empV p) ov) 56) hp i
  have hpb : p ≠ b := by intro e; have := h.nd; simp [e] at this
  have hpr : p ≠ rg := by intro e; have := h.nd; simp [e] at this
  refine ⟨H.put p (.cells (cellsRb b rg s.m (empV p) ov) 56), ⟨⟨rfl, rfl, fun i o hi => ?_⟩, rfl, rfl, fun i o hi => ?_, fun i hi => by rw [hget, if_neg hi]⟩, ?_⟩
  · rw [hget] at hi
    split at hi
    · rename_i e; subst e
      simp only [Option.some.injEq] at hi; subst hi
      refine ⟨_, h.cells, OW.cells ?_⟩
      simp only [cellsRb, VWL]
      exact ⟨_, _, VW.refl _, ⟨_, _, VW.refl _, ⟨_, _, VW.refl _, ⟨_, _, VW.refl _, ⟨_, _, VW.refl _, ⟨_, _, VW.refl _, ⟨_, _, VW.refl _, ⟨_, _, VW.refl _, ⟨_, _, VW.refl _, ⟨_, _, VW.refl _, ⟨_, _, VW.empty _ _ _, ⟨_, _, VW.refl _, ⟨_, _, VW.refl _, rfl, rfl⟩, rfl⟩, rfl⟩, rfl⟩, rfl⟩, rfl⟩, rfl⟩, rfl⟩, rfl⟩, rfl⟩, rfl⟩, rfl⟩, rfl⟩
    · exact ⟨o, hi, OW.refl o⟩
  · rw [hget] at hi
    split at hi
    · simp only [Option.some.injEq] at hi; subst hi
      show noTokL _ = true
      rw [noR, h.out.noTok]; rfl
    · exact hc i o hi
  · refine ⟨by rw [hget, if_pos rfl], by rw [hget, if_neg hpb.symm]; exact h.mem, by rw [hget, if_neg hpr.symm]; exact h.regs, .inl ⟨hj, rfl, .inr ⟨_, _, rfl⟩⟩, h.out.same fun i hi => ?_, h.nd⟩
    rw [hget, if_neg]
    intro e
    exact (List.nodup_append.1 h.nd).2.2 p (by simp) i (by simp [hi]) e.symm
def cdec (p : Prop) : Bool := @decide p (Classical.propDecidable p)
theorem cdec_true {p : Prop} (h : p) : cdec p = true := @decide_eq_true p (Classical.propDecidable p) h
theorem cdec_of {p : Prop} (h : cdec p = true) : p := @of_decide_eq_true p (Classical.propDecidable p) h
end Go.Proofs.Ytpggoincnebfnaa
namespace Go.Proofs.Ytpggoincnebfnaa
open Go Go.Ly Go.RowKit
def IsSame (H : Heap) : Prop := ∃ (m : Mc) (g f fp fb : Nat → Int) (j n N q : Nat), j + (n + 1) ≤ N ∧ n + 1 ≤ 9223372036854775807 ∧ q ≤ 9223372036854775806 ∧ (H = mkH (sameC m g nilV nilV nilV nilV 2 3 4 [] []) ∨ H = mkH (sameC m g nilV (sls 2 q) nilV (sls 5 q) 3 4 6 [some (outF fp fb q)] [some (outF fp fb q)]) ∨ H = mkH (sameC m g nilV nilV (empV 1) nilV 2 3 4 [] []) ∨ H = mkH (sameC m g nilV (sls 2 q) (empV 1) (sls 5 q) 3 4 6 [some (outF fp fb q)] [some (outF fp fb q)]) ∨ H = mkH (sameC m g (empV 0) nilV nilV nilV 2 3 4 [] []) ∨ H = mkH (sameC m g (empV 0) (sls 2 q) nilV (sls 5 q) 3 4 6 [some (outF fp fb q)] [some (outF fp fb q)]) ∨ H = mkH (sameC m g (empV 0) nilV (empV 1) nilV 2 3 4 [] []) ∨ H = mkH (sameC m g (empV 0) (sls 2 q) (empV 1) (sls 5 q) 3 4 6 [some (outF fp fb q)] [some (outF fp fb q)]) ∨ H = mkH (sameC m g (inV 2 j (n + 1)) nilV (inV 5 j (n + 1)) nilV 3 4 6 [some (rowP f N)] [some (rowR f N)]) ∨ H = mkH (sameC m g (inV 2 j (n + 1)) (sls 3 q) (inV 6 j (n + 1)) (sls 7 q) 4 5 8 [some (rowP f N), some (outF fp fb q)] [some (rowR f N), some (outF fp fb q)]))
def conS (H : Heap) (args : List Value) : ER :=
  match args with
  | [.pointer (some ⟨0, 0, none⟩), .pointer (some ⟨1, 0, none⟩)] => .tst (cdec (IsSame H)) (.val (.bool true)) .no
  | _ => .no
theorem conS_good (H : Heap) (args : List Value) : HGood Try.prog 39 args H (conS H args) := by
  unfold conS
  split
  · refine ⟨fun hd => ?_, fun _ => trivial⟩
    obtain ⟨m, g, f, fp, fb, j, n, N, q, h, hn, hq, hH⟩ := cdec_of hd
    rcases hH with rfl | rfl | rfl | rfl | rfl | rfl | rfl | rfl | rfl | rfl
    · exact rl_nn0 m g f fp fb j n N q h hn
    · exact rl_nn1 m g f fp fb j n N q h hn hq
    · exact rl_ne0 m g f fp fb j n N q h hn
    · exact rl_ne1 m g f fp fb j n N q h hn hq
    · exact rl_en0 m g f fp fb j n N q h hn
    · exact rl_en1 m g f fp fb j n N q h hn hq
    · exact rl_ee0 m g f fp fb j n N q h hn
    · exact rl_ee1 m g f fp fb j n N q h hn hq
    · exact rl_rr0 m g f fp fb j n N q h hn
    · exact rl_rr1 m g f fp fb j n N q h hn hq
  · exact trivial
def ctxS : Ctx := ctxQ.withH 39 conS
theorem ctxS_ok : ctxS.Ok Try.prog := ctxQ_ok.withH conS_good
end Go.Proofs.Ytpggoincnebfnaa
end
