/- The argument Start of a law: opened, and a law's call out of its local one. By program (genlw.py). -/
import Derived.Test.YtnknopebjdgdjaaLo
namespace Go.Proofs.Ytnknopebjdgdjaa
open Go Go.Ly Go.RowKit
set_option linter.unusedVariables false
set_option linter.unusedSimpArgs false
def Sv.Ok (s : Sv) : Prop := (B16 s.r0 ∧ B16 s.r1 ∧ B16 s.r2 ∧ B16 s.r3 ∧ B16 s.r4 ∧ B16 s.r5 ∧ B16 s.r6 ∧ B16 s.r7) ∧ B16 s.ip
theorem ck_bytes2 {w : World} {v : Value} (h : CkOk w (.slice [.int .u16, .int .u8]) v) : v = .slice none 0 0 ∨ ∃ (n : Nat) (a b : Nat → Int) (p : Option Plc),
    RealRows w 2 (fun e j => match j with | 0 => .int .u16 (a e) | _ + 1 => .int .u8 (b e)) n v p ∧ (∀ e, e < n → B16 (a e) ∧ B8 (b e)) ∧ n ≤ maxLen := by
  rcases ck_rows rfl (by decide) h with rfl | ⟨n, F, p, hr, hF, hn⟩
  · exact .inl rfl
  · right
    have key : ∀ e, e < n → ∃ x y, F e = [.int .u16 x, .int .u8 y] ∧ (Lit.int .u16 x).wf = true ∧ (Lit.int .u8 y).wf = true := by
      intro e he
      have := hF e he
      simp only [CksOk, CkOk] at this
      obtain ⟨v1, r1, e1, ⟨x, rfl, hx⟩, v2, r2, rfl, ⟨y, rfl, hy⟩, rfl⟩ := this
      exact ⟨x, y, e1, hx, hy⟩
    refine ⟨n, fun e => intV ((F e)[0]?.getD undef), fun e => intV ((F e)[1]?.getD undef), p, hr.congr (fun e j he hj => ?_), fun e he => ?_, hn⟩
    · obtain ⟨x, y, e1, _, _⟩ := key e he
      have : j = 0 ∨ j = 1 := by simp at hj; omega
      rcases this with rfl | rfl <;> simp [e1, intV]
    · obtain ⟨x, y, e1, hx, hy⟩ := key e he
      simp only [e1, List.getElem?_cons_zero, List.getElem?_cons_succ, Option.getD_some, intV]
      exact ⟨bounds_u16 hx, bounds_u8 hy⟩
theorem ck_in {w : World} {v : Value} (h : CkOk w (.slice [.int .u8]) v) : v = .slice none 0 0 ∨ ∃ (n : Nat) (f : Nat → Int) (p : Option Plc),
    RealRows w 1 (fun e _ => .int .u8 (f e)) n v p ∧ (∀ e, e < n → B8 (f e)) ∧ n ≤ maxLen := by
  rcases ck_rows rfl (by decide) h with rfl | ⟨n, F, p, hr, hF, hn⟩
  · exact .inl rfl
  · right
    have key : ∀ e, e < n → ∃ y, F e = [.int .u8 y] ∧ (Lit.int .u8 y).wf = true := by
      intro e he
      have := hF e he
      simp only [CksOk, CkOk] at this
      obtain ⟨v2, r2, e1, ⟨y, rfl, hy⟩, rfl⟩ := this
      exact ⟨y, e1, hy⟩
    refine ⟨n, fun e => intV ((F e)[0]?.getD undef), p, hr.congr (fun e j he hj => ?_), fun e he => ?_, hn⟩
    · obtain ⟨y, e1, _⟩ := key e he
      have : j = 0 := by simp at hj; omega
      subst this
      simp [e1, intV]
    · obtain ⟨y, e1, hy⟩ := key e he
      simp only [e1, List.getElem?_cons_zero, Option.getD_some, intV]
      exact bounds_u8 hy
def InRow (w : World) (i : Nat) (f : Nat → Int) (n : Nat) (loc v : Value) (p : Option Plc) : Prop :=
  (loc = .slice none 0 0 ∧ v = .slice none 0 0 ∧ n = 0 ∧ p = none) ∨ (loc = sl i n ∧ RealRows w 1 (fun e _ => .int .u8 (f e)) n v p)
def MRow (w : World) (i : Nat) (a b : Nat → Int) (n : Nat) (loc v : Value) (p : Option Plc) : Prop :=
  (loc = .slice none 0 0 ∧ v = .slice none 0 0 ∧ n = 0 ∧ p = none) ∨ (loc = sl i n ∧ RealRows w 2 (fun e j => match j with | 0 => .int .u16 (a e) | _ + 1 => .int .u8 (b e)) n v p)
/-- the argument Start, opened -/
theorem sv_open {W : World} {v : Value} (h : ∃ cs, v = .agg ⟨cs⟩ ∧ CksOk W [.int .u16, .int .u16, .int .u16, .int .u16, .int .u16, .int .u16, .int .u16, .int .u16, .bool, .bool, .bool, .bool, .bool, .int .u16, .bool, .slice [.int .u8], .slice [.int .u16, .int .u8], .slice [.int .u16, .int .u8]] cs) :
    ∃ (s : Sv) (iv cv dv : Value), s.Ok ∧ v = svV s iv cv dv ∧ CkOk W (.slice [.int .u8]) iv ∧ CkOk W (.slice [.int .u16, .int .u8]) cv ∧ CkOk W (.slice [.int .u16, .int .u8]) dv := by
  obtain ⟨cs, rfl, h⟩ := h
  simp only [CksOk] at h
  obtain ⟨v0, _, rfl, c0, v1, _, rfl, c1, v2, _, rfl, c2, v3, _, rfl, c3, v4, _, rfl, c4, v5, _, rfl, c5, v6, _, rfl, c6, v7, _, rfl, c7, v8, _, rfl, c8, v9, _, rfl, c9, v10, _, rfl, c10, v11, _, rfl, c11, v12, _, rfl, c12, v13, _, rfl, c13, v14, _, rfl, c14, v15, _, rfl, c15, v16, _, rfl, c16, v17, _, rfl, c17, rfl⟩ := h
  simp only [CkOk] at c0 c1 c2 c3 c4 c5 c6 c7 c8 c9 c10 c11 c12 c13 c14
  obtain ⟨n0, rfl, w0⟩ := c0
  obtain ⟨n1, rfl, w1⟩ := c1
  obtain ⟨n2, rfl, w2⟩ := c2
  obtain ⟨n3, rfl, w3⟩ := c3
  obtain ⟨n4, rfl, w4⟩ := c4
  obtain ⟨n5, rfl, w5⟩ := c5
  obtain ⟨n6, rfl, w6⟩ := c6
  obtain ⟨n7, rfl, w7⟩ := c7
  obtain ⟨b8, rfl⟩ := c8
  obtain ⟨b9, rfl⟩ := c9
  obtain ⟨b10, rfl⟩ := c10
  obtain ⟨b11, rfl⟩ := c11
  obtain ⟨b12, rfl⟩ := c12
  obtain ⟨n13, rfl, w13⟩ := c13
  obtain ⟨b14, rfl⟩ := c14
  exact ⟨⟨n0, n1, n2, n3, n4, n5, n6, n7, b8, b9, b10, b11, b12, n13, b14⟩, v15, v16, v17,
    ⟨⟨bounds_u16 w0, bounds_u16 w1, bounds_u16 w2, bounds_u16 w3, bounds_u16 w4, bounds_u16 w5, bounds_u16 w6, bounds_u16 w7⟩, bounds_u16 w13⟩, rfl, c15, c16, c17⟩
theorem in_cases {w : World} {v : Value} (h : CkOk w (.slice [.int .u8]) v) : ∃ (f : Nat → Int) (n : Nat) (loc : Value) (p : Option Plc), InRow w 0 f n loc v p ∧ (∀ e, e < n → B8 (f e)) ∧ n ≤ maxLen := by
  rcases ck_in h with rfl | ⟨n, f, p, hr, hf, hn⟩
  · exact ⟨fun _ => 0, 0, .slice none 0 0, none, .inl ⟨rfl, rfl, rfl, rfl⟩, fun e he => by omega, by simp [maxLen]⟩
  · exact ⟨f, n, sl 0 n, p, .inr ⟨rfl, hr⟩, hf, hn⟩
theorem m_cases {w : World} (i : Nat) {v : Value} (h : CkOk w (.slice [.int .u16, .int .u8]) v) : ∃ (a b : Nat → Int) (n : Nat) (loc : Value) (p : Option Plc), MRow w i a b n loc v p ∧ (∀ e, e < n → B16 (a e) ∧ B8 (b e)) ∧ n ≤ maxLen := by
  rcases ck_bytes2 h with rfl | ⟨n, a, b, p, hr, hf, hn⟩
  · exact ⟨fun _ => 0, fun _ => 0, 0, .slice none 0 0, none, .inl ⟨rfl, rfl, rfl, rfl⟩, fun e he => by omega, by simp [maxLen]⟩
  · exact ⟨a, b, n, sl i n, p, .inr ⟨rfl, hr⟩, hf, hn⟩
/-- a law's call: a Start and plain arguments -/
theorem calls_start {W : World} {F : FuncId} {s : Sv} {f a b c d : Nat → Int} {n k l : Nat} {li lm ld iv mv dv : Value} {pi pm pd : Option Plc} {rest : List Value} (hi : InRow W 0 f n li iv pi) (hm : MRow W 1 a b k lm mv pm) (hd : MRow W 2 c d l ld dv pd) (hp : plainL rest = true)
    (h : LCalls Try.prog F (svV s li lm ld :: rest) (mkH [some (ints .u8 f n), some (bytes2 a b k), some (bytes2 c d l)]) (fun u _ => u = .bool true)) :
    Calls Try.prog F ⟨svV s iv mv dv :: rest⟩ W (fun e W' => e = .returned (.bool true) ∧ Below W.heap.size W W') := by
  have hrep : Rep (rowsRenW [pi, pm, pd] (fun i => if i = 0 then 1 else 2)) (mkH [some (ints .u8 f n), some (bytes2 a b k), some (bytes2 c d l)]) W := by
    refine rowsW_rep (l := [pi, pm, pd]) (rs := [(1, fun e _ => .int .u8 (f e), n), (2, fun e j => match j with | 0 => .int .u16 (a e) | _ + 1 => .int .u8 (b e), k), (2, fun e j => match j with | 0 => .int .u16 (c e) | _ + 1 => .int .u8 (d e), l)]) rfl (by simp) (fun i q hq => ?_) (fun i k' g n' hr => ?_)
    · match i, hq with
      | 0, hq =>
        simp at hq
        rcases hi with ⟨_, _, _, rfl⟩ | ⟨_, hr⟩
        · cases hq
        · exact hr.low q hq
      | 1, hq =>
        simp at hq
        rcases hm with ⟨_, _, _, rfl⟩ | ⟨_, hr⟩
        · cases hq
        · exact hr.low q hq
      | 2, hq =>
        simp at hq
        rcases hd with ⟨_, _, _, rfl⟩ | ⟨_, hr⟩
        · cases hq
        · exact hr.low q hq
      | i + 3, hq => simp at hq
    · match i, hr with
      | 0, hr =>
        simp at hr
        obtain ⟨rfl, rfl, rfl⟩ := hr
        refine ⟨rfl, fun e j he hj => ?_⟩
        rcases hi with ⟨_, _, h0, _⟩ | ⟨_, hr⟩
        · omega
        · exact ⟨hr.one e j he hj, hr.cell e j he hj⟩
      | 1, hr =>
        simp at hr
        obtain ⟨rfl, rfl, rfl⟩ := hr
        refine ⟨rfl, fun e j he hj => ?_⟩
        rcases hm with ⟨_, _, h0, _⟩ | ⟨_, hr⟩
        · omega
        · exact ⟨hr.one e j he hj, hr.cell e j he hj⟩
      | 2, hr =>
        simp at hr
        obtain ⟨rfl, rfl, rfl⟩ := hr
        refine ⟨rfl, fun e j he hj => ?_⟩
        rcases hd with ⟨_, _, h0, _⟩ | ⟨_, hr⟩
        · omega
        · exact ⟨hr.one e j he hj, hr.cell e j he hj⟩
      | i + 3, hr => simp at hr
  have vi : VR (rowsRenW [pi, pm, pd] (fun i => if i = 0 then 1 else 2)) li iv := by
    rcases hi with ⟨rfl, rfl, _, _⟩ | ⟨rfl, hr⟩
    · simp [VR]
    · exact slW_VR hr rfl
  have vm : VR (rowsRenW [pi, pm, pd] (fun i => if i = 0 then 1 else 2)) lm mv := by
    rcases hm with ⟨rfl, rfl, _, _⟩ | ⟨rfl, hr⟩
    · simp [VR]
    · exact slW_VR hr rfl
  have vd : VR (rowsRenW [pi, pm, pd] (fun i => if i = 0 then 1 else 2)) ld dv := by
    rcases hd with ⟨rfl, rfl, _, _⟩ | ⟨rfl, hr⟩
    · simp [VR]
    · exact slW_VR hr rfl
  refine calls_ro h rfl ?_ hrep (fun _ => rfl)
  simp only [VRL]
  refine ⟨_, rest, ?_, plainL_VR _ hp, rfl⟩
  simp only [svV, VR, VRL]
  exact ⟨_, ⟨_, _, rfl, ⟨_, _, rfl, ⟨_, _, rfl, ⟨_, _, rfl, ⟨_, _, rfl, ⟨_, _, rfl, ⟨_, _, rfl, ⟨_, _, rfl, ⟨_, _, rfl, ⟨_, _, rfl, ⟨_, _, rfl, ⟨_, _, rfl, ⟨_, _, rfl, ⟨_, _, rfl, ⟨_, _, rfl, ⟨_, _, vi, ⟨_, _, vm, ⟨_, _, vd, rfl, rfl⟩, rfl⟩, rfl⟩, rfl⟩, rfl⟩, rfl⟩, rfl⟩, rfl⟩, rfl⟩, rfl⟩, rfl⟩, rfl⟩, rfl⟩, rfl⟩, rfl⟩, rfl⟩, rfl⟩, rfl⟩, rfl⟩
end Go.Proofs.Ytnknopebjdgdjaa
