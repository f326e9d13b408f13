/- Short words for what a machine's step comes to, and how they are brought into one form. -/
import Derived.Test.YtpggoincnebfnaaSo
namespace Go.Proofs.Ytpggoincnebfnaa
open Go Go.Ly Go.RowKit
set_option linter.unusedVariables false
set_option linter.unusedSimpArgs false
noncomputable def w16 (n : Int) : Int := IntKind.u16.wrap n
noncomputable def w8 (n : Int) : Int := IntKind.u8.wrap n
noncomputable def or16 (a b : Int) : Int := bits .or .u16 a b
noncomputable def and16 (a b : Int) : Int := bits .and .u16 a b
noncomputable def xor8 (a b : Int) : Int := bits .xor .u8 a b
noncomputable def and8 (a b : Int) : Int := bits .and .u8 a b
noncomputable def or8 (a b : Int) : Int := bits .or .u8 a b
noncomputable def ix (n : Int) : Nat := 0 + n.toNat * 1
noncomputable def rg (n : Int) : Bool := decide (0 ≤ n) && decide (n < 65536)
noncomputable def lt16 (n : Int) : Bool := decide (n < 65536)
noncomputable def bl (n : Nat) : Bool := Nat.blt n 65536
noncomputable def T (l : List Bool) : List (Bool × Bool) := l.map fun b => (b, true)
noncomputable def M1 (g : Nat → Int) (i : Nat) (v : Int) : LO := .fn 1 (updG (fun e _ => .int .u8 (g e)) i 0 [.int .u8 v]) 65536 5
noncomputable def M2 (g : Nat → Int) (i : Nat) (u : Int) (j : Nat) (v : Int) : LO := .fn 1 (updG (updG (fun e _ => .int .u8 (g e)) i 0 [.int .u8 u]) j 0 [.int .u8 v]) 65536 5
noncomputable def hPm (m : Mc) (o : LO) : List (Option LO) := [some (.cells (cellsP m (tokV 17) (tokV 18)) 60), some o]
noncomputable def hRm (m : Mc) (o : LO) : List (Option LO) := [some (.cells (cellsR m (tokV 10) (tokV 11)) 56), some o, some (regsR m)]
theorem B8.w {n : Int} (h : B8 n) : B16 n := ⟨h.1, by have := h.2; omega⟩
theorem w16e (n : Int) : w16 n = n % 65536 := IntKind.wrap_u16 n
theorem w8e (n : Int) : w8 n = n % 256 := IntKind.wrap_u8 n
@[simp] theorem b8w8 (n : Int) : B8 (w8 n) := by unfold B8; rw [w8e]; omega
@[simp] theorem b16w16 (n : Int) : B16 (w16 n) := by unfold B16; rw [w16e]; omega
@[simp] theorem b8mod (n : Int) : B8 (n % 256) := by unfold B8; omega
theorem bitsNat (op : BinOp) (k : IntKind) (a b : Int) : ∃ n : Int, bits op k a b = k.wrap n := by
  unfold bits; exact ⟨_, rfl⟩
@[simp] theorem b16or (a b : Int) : B16 (or16 a b) := by
  obtain ⟨n, h⟩ := bitsNat .or .u16 a b; unfold or16; rw [h]; exact b16w16 n
@[simp] theorem b8xor (a b : Int) : B8 (xor8 a b) := by
  obtain ⟨n, h⟩ := bitsNat .xor .u8 a b; unfold xor8; rw [h]; exact b8w8 n
@[simp] theorem b8and (a b : Int) : B8 (and8 a b) := by
  obtain ⟨n, h⟩ := bitsNat .and .u8 a b; unfold and8; rw [h]; exact b8w8 n
@[simp] theorem b8or (a b : Int) : B8 (or8 a b) := by
  obtain ⟨n, h⟩ := bitsNat .or .u8 a b; unfold or8; rw [h]; exact b8w8 n
@[simp] theorem b16pair {h l : Int} (hh : B8 h) (hl : B8 l) : B16 (256 * h + l) := by unfold B8 at hh hl; unfold B16; omega
@[simp] theorem b16_0 : B16 0 := by unfold B16; omega
@[simp] theorem b16_8 : B16 8 := by unfold B16; omega
@[simp] theorem b16_16 : B16 16 := by unfold B16; omega
@[simp] theorem b16_24 : B16 24 := by unfold B16; omega
@[simp] theorem b16_32 : B16 32 := by unfold B16; omega
@[simp] theorem b16_40 : B16 40 := by unfold B16; omega
@[simp] theorem b16_48 : B16 48 := by unfold B16; omega
@[simp] theorem b16_56 : B16 56 := by unfold B16; omega
@[simp] theorem b16of {n : Int} (h : B8 n) : B16 n := h.w
@[simp] theorem w16id {n : Int} (h : B16 n) : w16 n = n := by unfold B16 at h; rw [w16e]; omega
@[simp] theorem w8id {n : Int} (h : B8 n) : w8 n = n := by unfold B8 at h; rw [w8e]; omega
@[simp] theorem sh8 {n : Int} (h : B8 n) : w16 (n * 256) = 256 * n := by unfold B8 at h; rw [w16e]; omega
theorem or_add (h l : Nat) (hh : h < 256) (hl : l < 256) : (256 * h) ||| l = 256 * h + l := by
  have := Nat.two_pow_add_eq_or_of_lt (i := 8) (b := l) (by omega) h
  simpa using this.symm
@[simp] theorem orhl {h l : Int} (hh : B8 h) (hl : B8 l) : or16 (256 * h) l = 256 * h + l := by
  unfold B8 at hh hl
  obtain ⟨h', rfl⟩ := Int.eq_ofNat_of_zero_le hh.1
  obtain ⟨l', rfl⟩ := Int.eq_ofNat_of_zero_le hl.1
  show IntKind.u16.wrap ((BitVec.ofInt 16 (256 * (h' : Int)) ||| BitVec.ofInt 16 (l' : Int)).toNat : Nat) = _
  have e1 : (BitVec.ofInt 16 (256 * (h' : Int))).toNat = 256 * h' := by rw [BitVec.toNat_ofInt]; omega
  have e2 : (BitVec.ofInt 16 (l' : Int)).toNat = l' := by rw [BitVec.toNat_ofInt]; omega
  rw [BitVec.toNat_or, e1, e2, or_add h' l' (by omega) (by omega), IntKind.wrap_u16]; omega
@[simp] theorem orlh {h l : Int} (hh : B8 h) (hl : B8 l) : or16 l (256 * h) = 256 * h + l := by
  have : or16 l (256 * h) = or16 (256 * h) l := by
    show IntKind.u16.wrap ((BitVec.ofInt 16 l ||| BitVec.ofInt 16 (256 * h)).toNat : Nat) = IntKind.u16.wrap ((BitVec.ofInt 16 (256 * h) ||| BitVec.ofInt 16 l).toNat : Nat)
    rw [BitVec.or_comm]
  rw [this, orhl hh hl]
@[simp] theorem or0 {n : Int} (h : B8 n) : or16 0 n = n := by
  have := orhl (h := 0) (l := n) (by unfold B8; omega) h
  simpa using this
@[simp] theorem rdw {a b : Int} (ha : B8 a) (hb : B8 b) : w16 (a + 256 * b) = 256 * b + a := by unfold B8 at ha hb; rw [w16e]; omega
@[simp] theorem and255u (n : Int) : w8 (and16 n 255) = w8 n := by
  show IntKind.u8.wrap (IntKind.u16.wrap ((BitVec.ofInt 16 n &&& BitVec.ofInt 16 255).toNat : Nat)) = IntKind.u8.wrap n
  have h1 : (BitVec.ofInt 16 255).toNat = 2 ^ 8 - 1 := by decide
  have key : (BitVec.ofInt 16 n &&& BitVec.ofInt 16 255).toNat = (n % ((2 ^ 16 : Nat) : Int)).toNat % 2 ^ 8 := by
    rw [BitVec.toNat_and, BitVec.toNat_ofInt, h1, Nat.and_two_pow_sub_one_eq_mod]
  rw [key, IntKind.wrap_u8, IntKind.wrap_u8, IntKind.wrap_u16]; omega
@[simp] theorem addneg1 (n : Int) : n + -1 = n - 1 := rfl
@[simp] theorem b8_0 : B8 0 := by unfold B8; omega
@[simp] theorem b8_255 : B8 255 := by unfold B8; omega
@[simp] theorem b8rrc {n : Int} (h : B8 n) : B8 (n / 2 + n % 2 * 128) := by unfold B8 at h ⊢; omega
@[simp] theorem b8rar {n : Int} (h : B8 n) (b : Bool) : B8 (n / 2 + 128 * cI b) := by unfold B8 at h ⊢; cases b <;> simp [cI] <;> omega
@[simp] theorem addneg2 (n : Int) : n + -2 = n - 2 := rfl
@[simp] theorem back2 {n : Int} (h : B16 n) : w16 (w16 (n + 2) - 2) = n := by unfold B16 at h; rw [w16e, w16e]; omega
@[simp] theorem xnot {n : Int} (h : B8 n) : xor8 255 n = w8 (255 - n) := by
  rw [w8e]
  have := not8 n h.1 h.2
  unfold xor8
  rw [show bits BinOp.xor IntKind.u8 255 n = 255 - n from this]
  unfold B8 at h; omega
@[simp] theorem rgt {n : Int} (h : B16 n) : rg n = true := idx_of h
@[simp] theorem lt16t {n : Int} (h : B16 n) : lt16 n = true := by unfold B16 at h; unfold lt16; simp; omega
@[simp] theorem blt' {n : Int} (h : B16 n) : bl (ix n) = true := blt_of h
@[simp] theorem inbt {n : Int} (h : B8 n) : inb n = true := inb_of h
@[simp] theorem inwt {n : Int} (h : B16 n) : inw n = true := inw_of h
@[simp] theorem Tnil : trusted (T []) = True := rfl
@[simp] theorem Tcons (b : Bool) (l : List Bool) : trusted (T (b :: l)) = (b = true ∧ trusted (T l)) := rfl
@[simp] theorem trnil : trusted [] = True := rfl
@[simp] theorem trcons (b d : Bool) (l : List (Bool × Bool)) : trusted ((b, d) :: l) = (b = d ∧ trusted l) := rfl
@[simp] theorem ixne {n : Int} (h : B16 n) : ix (w16 (n + 1)) ≠ ix n := by unfold B16 at h; unfold ix; rw [w16e]; omega
theorem cIb (b : Bool) : 0 ≤ cI b ∧ cI b ≤ 1 := by cases b <;> simp [cI]
@[simp] theorem b8psw (a b c d e : Bool) : B8 (128 * cI a + 64 * cI b + 16 * cI c + 4 * cI d + 2 + cI e) := by
  have := cIb a; have := cIb b; have := cIb c; have := cIb d; have := cIb e
  unfold B8; omega
theorem m1s {g : Nat → Int} {i i' : Nat} {v v' : Int} (h1 : i = i') (h2 : v = v') : LOeq (M1 g i v) (memL (upd g i' v')) := by subst h1 h2; exact mem1 g i v
theorem m2s {g : Nat → Int} {i i' j j' : Nat} {u u' v v' : Int} (h1 : i = i') (h2 : u = u') (h3 : j = j') (h4 : v = v') : LOeq (M2 g i u j v) (memL (upd (upd g i' u') j' v')) := by subst h1 h2 h3 h4; exact mem2 g i j u v
theorem m2c {g : Nat → Int} {i i' j j' : Nat} {u u' v v' : Int} (h1 : i = i') (h2 : u = u') (h3 : j = j') (h4 : v = v') (hn : i' ≠ j') : LOeq (M2 g i u j v) (memL (upd (upd g j' v') i' u')) := by
  subst h1 h2 h3 h4; rw [upd_comm (Ne.symm hn)]; exact mem2 g i j u v
theorem eP {m : Mc} {o : LO} {g : Nat → Int} (h : LOeq o (memL g)) : Each2 OLeq (hPm m o) (hP m g) := ⟨.inl rfl, h, trivial⟩
theorem eR {m m' : Mc} {o : LO} {g : Nat → Int} (e : m = m') (h : LOeq o (memL g)) : Each2 OLeq (hRm m o) (hR m' g) := by subst e; exact ⟨.inl rfl, h, .inl rfl, trivial⟩
theorem upd_b8 {g : Nat → Int} {i : Nat} {v : Int} (hg : ∀ e, B8 (g e)) (hv : B8 v) : ∀ e, B8 (upd g i v e) := upd_mem hg hv
@[simp] theorem at1_ix (n k : Int) : at1 n k = ix (w16 (n + k)) := rfl
@[simp] theorem cIt : cI true = 1 := rfl
@[simp] theorem cIf : cI false = 0 := rfl
end Go.Proofs.Ytpggoincnebfnaa
