/- What the reference's wide numbers come to: six parts of 32 bits each, told of the whole number that they stand for. -/
import Derived.Test.YteceeoaabmbckaaQgbpkefpolb
import Derived.Test.YteceeoaabmbckaaQnfimnniaco
import Derived.Test.YteceeoaabmbckaaQddpbnagbok
import Derived.Test.YteceeoaabmbckaaQdjmdeebmie
import Derived.Test.YteceeoaabmbckaaQfhlhecmlmd
import Derived.Test.YteceeoaabmbckaaQpnfocgnbhf
namespace Go.Proofs.Yteceeoaabmbckaa.Civ
set_option linter.unusedVariables false
set_option linter.unusedSimpArgs false
open Go.RowKit Go.Proofs.YteceeoaabmbckaaW.PrintWords Go.Proofs.YteceeoaabmbckaaW.PrintLast Go.Proofs.YteceeoaabmbckaaW.PrintMore Go.Proofs.Yteceeoaabmbckaa.P
theorem u64m (x : Int) : IntKind.u64.wrap x = x % 18446744073709551616 := by simp [IntKind.wrap, IntKind.bits, IntKind.signed]
theorem u64w {x : Int} (h1 : 0 ≤ x) (h2 : x ≤ 18446744073709551615) : IntKind.u64.wrap x = x := by rw [u64m]; omega
theorem wraps_u64 (n : Int) (h₀ : 0 ≤ n) (h₁ : n < 2 ^ 64) : IntKind.u64.wrap n = n := by rw [u64m]; omega
theorem and32 {x : Int} (h1 : 0 ≤ x) (h2 : x ≤ 18446744073709551615) : Go.bits .and .u64 x 4294967295 = x % 4294967296 :=
  bits_mask .u64 64 (by decide) wraps_u64 32 (by decide) x h1 (by omega)
/-- Two parts that do not overlap. -/
theorem orj (i : Nat) (hi : i ≤ 63) {x y : Int} (hx0 : 0 ≤ x) (hx : x % 2 ^ i = 0) (hx1 : x ≤ 18446744073709551615) (hy0 : 0 ≤ y) (hy : y < 2 ^ i) : Go.bits .or .u64 x y = x + y := by
  refine bits_join .u64 64 (by decide) wraps_u64 i x y hx0 hx (by omega) hy0 hy ?_
  have : (2 : Int) ^ i ≤ 2 ^ 63 := by exact_mod_cast Nat.pow_le_pow_right (by decide) hi
  omega
/-- Its six parts. -/
def dig (n : Int) : List Int := [n % 4294967296, n / 4294967296 % 4294967296, n / 4294967296 / 4294967296 % 4294967296, n / 4294967296 / 4294967296 / 4294967296 % 4294967296, n / 4294967296 / 4294967296 / 4294967296 / 4294967296 % 4294967296, n / 4294967296 / 4294967296 / 4294967296 / 4294967296 / 4294967296 % 4294967296]
theorem part_bd (x : Int) : 0 ≤ x % 4294967296 ∧ x % 4294967296 < 4294967296 := by omega
theorem part_eq (x : Int) : x = x % 4294967296 + 4294967296 * (x / 4294967296) := by omega
theorem dig_form {a : Int} (h0 : 0 ≤ a) (h1 : a < 6277101735386680763835789423207666416102355444464034512896) : ∃ a0 a1 a2 a3 a4 a5, dig a = [a0, a1, a2, a3, a4, a5] ∧ ((0 ≤ a0 ∧ a0 < 4294967296) ∧ (0 ≤ a1 ∧ a1 < 4294967296) ∧ (0 ≤ a2 ∧ a2 < 4294967296) ∧ (0 ≤ a3 ∧ a3 < 4294967296) ∧ (0 ≤ a4 ∧ a4 < 4294967296) ∧ (0 ≤ a5 ∧ a5 < 4294967296)) ∧ a = a0 + 4294967296 * (a1 + 4294967296 * (a2 + 4294967296 * (a3 + 4294967296 * (a4 + 4294967296 * (a5))))) := by
  refine ⟨_, _, _, _, _, _, rfl, ⟨part_bd _, part_bd _, part_bd _, part_bd _, part_bd _, part_bd _⟩, ?_⟩
  have e : a / 4294967296 / 4294967296 / 4294967296 / 4294967296 / 4294967296 % 4294967296 = a / 4294967296 / 4294967296 / 4294967296 / 4294967296 / 4294967296 := by
    have h : a / 4294967296 / 4294967296 / 4294967296 / 4294967296 / 4294967296 = a / 1461501637330902918203684832716283019655932542976 := by omega
    omega
  rw [e, ← part_eq, ← part_eq, ← part_eq, ← part_eq, ← part_eq]
theorem part_lo {x y : Int} (h : 0 ≤ x ∧ x < 4294967296) : (x + 4294967296 * y) % 4294967296 = x ∧ (x + 4294967296 * y) / 4294967296 = y := by omega
theorem dig_of {a : Int} {a0 a1 a2 a3 a4 a5 : Int} (h : (0 ≤ a0 ∧ a0 < 4294967296) ∧ (0 ≤ a1 ∧ a1 < 4294967296) ∧ (0 ≤ a2 ∧ a2 < 4294967296) ∧ (0 ≤ a3 ∧ a3 < 4294967296) ∧ (0 ≤ a4 ∧ a4 < 4294967296) ∧ (0 ≤ a5 ∧ a5 < 4294967296)) (e : a = a0 + 4294967296 * (a1 + 4294967296 * (a2 + 4294967296 * (a3 + 4294967296 * (a4 + 4294967296 * (a5)))))) : dig a = [a0, a1, a2, a3, a4, a5] := by
  obtain ⟨h0, h1, h2, h3, h4, h5⟩ := h
  have h6 : a5 % 4294967296 = a5 := by omega
  unfold dig
  rw [e]
  simp only [(part_lo h0).1, (part_lo h0).2, (part_lo h1).1, (part_lo h1).2, (part_lo h2).1, (part_lo h2).2, (part_lo h3).1, (part_lo h3).2, (part_lo h4).1, (part_lo h4).2, h6]
theorem dig_zero : dig 0 = List.replicate 6 0 := rfl
theorem dig_length (a : Int) : (dig a).length = 6 := rfl
theorem hv_bd {a0 a1 a2 a3 a4 a5 : Int} (h : (0 ≤ a0 ∧ a0 < 4294967296) ∧ (0 ≤ a1 ∧ a1 < 4294967296) ∧ (0 ≤ a2 ∧ a2 < 4294967296) ∧ (0 ≤ a3 ∧ a3 < 4294967296) ∧ (0 ≤ a4 ∧ a4 < 4294967296) ∧ (0 ≤ a5 ∧ a5 < 4294967296)) : 0 ≤ a0 + 4294967296 * (a1 + 4294967296 * (a2 + 4294967296 * (a3 + 4294967296 * (a4 + 4294967296 * (a5))))) ∧ a0 + 4294967296 * (a1 + 4294967296 * (a2 + 4294967296 * (a3 + 4294967296 * (a4 + 4294967296 * (a5))))) < 6277101735386680763835789423207666416102355444464034512896 := by
  obtain ⟨h0, h1, h2, h3, h4, h5⟩ := h
  have g4 : 0 ≤ a4 + 4294967296 * a5 ∧ a4 + 4294967296 * a5 < 18446744073709551616 := by omega
  generalize a4 + 4294967296 * a5 = x4 at *
  have g3 : 0 ≤ a3 + 4294967296 * x4 ∧ a3 + 4294967296 * x4 < 79228162514264337593543950336 := by omega
  generalize a3 + 4294967296 * x4 = x3 at *
  have g2 : 0 ≤ a2 + 4294967296 * x3 ∧ a2 + 4294967296 * x3 < 340282366920938463463374607431768211456 := by omega
  generalize a2 + 4294967296 * x3 = x2 at *
  have g1 : 0 ≤ a1 + 4294967296 * x2 ∧ a1 + 4294967296 * x2 < 1461501637330902918203684832716283019655932542976 := by omega
  generalize a1 + 4294967296 * x2 = x1 at *
  omega
theorem mod_of {x D c : Int} (h : x = D + 6277101735386680763835789423207666416102355444464034512896 * c) (h0 : 0 ≤ D ∧ D < 6277101735386680763835789423207666416102355444464034512896) : x % 6277101735386680763835789423207666416102355444464034512896 = D := by omega
theorem add_next (k : Nat) {x0 x1 x5 : List Int} {c i u v : Int} (h0 : 0 ≤ i) (h6 : i < 6) (l0 : x0.length = 6) (l1 : x1.length = 6) (l5 : x5.length = 6) (hc : 0 ≤ c ∧ c ≤ 1)
    (hu : rd x0 i = u) (hv : rd x1 i = v) (ub : 0 ≤ u ∧ u < 4294967296) (vb : 0 ≤ v ∧ v < 4294967296) :
    ∃ d c', computusref01_add.l0 (k + 1) x0 x1 x5 c i = computusref01_add.l0 k x0 x1 (x5.set i.toNat d) c' (i + 1) ∧ (0 ≤ d ∧ d < 4294967296) ∧ (0 ≤ c' ∧ c' ≤ 1) ∧ c + u + v = d + 4294967296 * c' := by
  refine ⟨(c + u + v) % 4294967296, (c + u + v) / 4294967296, ?_, part_bd _, by omega, part_eq _⟩
  simp only [computusref01_add.l0]
  rw [if_pos h6, if_pos h0, l0, l1, l5, if_pos (by omega), if_pos (by omega), if_pos (by omega), hu, hv, u64w (x := c + u) (by omega) (by omega), u64w (x := c + u + v) (by omega) (by omega), and32 (by omega) (by omega), w64 (by omega) (by omega)]
theorem add_key {a0 a1 a2 a3 a4 a5 b0 b1 b2 b3 b4 b5 d0 d1 d2 d3 d4 d5 c1 c2 c3 c4 c5 c6 : Int} (h0 : 0 + a0 + b0 = d0 + 4294967296 * c1) (h1 : c1 + a1 + b1 = d1 + 4294967296 * c2) (h2 : c2 + a2 + b2 = d2 + 4294967296 * c3) (h3 : c3 + a3 + b3 = d3 + 4294967296 * c4) (h4 : c4 + a4 + b4 = d4 + 4294967296 * c5) (h5 : c5 + a5 + b5 = d5 + 4294967296 * c6) : (a0 + 4294967296 * (a1 + 4294967296 * (a2 + 4294967296 * (a3 + 4294967296 * (a4 + 4294967296 * (a5)))))) + (b0 + 4294967296 * (b1 + 4294967296 * (b2 + 4294967296 * (b3 + 4294967296 * (b4 + 4294967296 * (b5)))))) = (d0 + 4294967296 * (d1 + 4294967296 * (d2 + 4294967296 * (d3 + 4294967296 * (d4 + 4294967296 * (d5)))))) + 6277101735386680763835789423207666416102355444464034512896 * c6 := by omega
theorem add_dig (k : Nat) {a b : Int} (ha : 0 ≤ a) (ha1 : a < 6277101735386680763835789423207666416102355444464034512896) (hb : 0 ≤ b) (hb1 : b < 6277101735386680763835789423207666416102355444464034512896) : computusref01_add.f (k + 7) (dig a) (dig b) = some (dig ((a + b) % 6277101735386680763835789423207666416102355444464034512896)) := by
  obtain ⟨a0, a1, a2, a3, a4, a5, ea, ⟨A0, A1, A2, A3, A4, A5⟩, va⟩ := dig_form ha ha1
  obtain ⟨b0, b1, b2, b3, b4, b5, eb, ⟨B0, B1, B2, B3, B4, B5⟩, vb⟩ := dig_form hb hb1
  clear ha ha1 hb hb1
  rw [ea, eb]
  unfold computusref01_add.f
  rw [if_pos (by decide), show (List.replicate 6 0 : List Int) = [0, 0, 0, 0, 0, 0] from rfl]
  have C0 : (0 : Int) ≤ 0 ∧ (0 : Int) ≤ 1 := by decide
  obtain ⟨d0, c1, e0, D0, C1, E0⟩ := add_next (k + 6) (x0 := [a0, a1, a2, a3, a4, a5]) (x1 := [b0, b1, b2, b3, b4, b5]) (x5 := [0, 0, 0, 0, 0, 0]) (c := 0) (i := 0) (u := a0) (v := b0) (by decide) (by decide) rfl rfl rfl C0 rfl rfl A0 B0
  refine e0.trans ?_
  show computusref01_add.l0 (k + 6) [a0, a1, a2, a3, a4, a5] [b0, b1, b2, b3, b4, b5] [d0, 0, 0, 0, 0, 0] c1 1 = _
  obtain ⟨d1, c2, e1, D1, C2, E1⟩ := add_next (k + 5) (x0 := [a0, a1, a2, a3, a4, a5]) (x1 := [b0, b1, b2, b3, b4, b5]) (x5 := [d0, 0, 0, 0, 0, 0]) (c := c1) (i := 1) (u := a1) (v := b1) (by decide) (by decide) rfl rfl rfl C1 rfl rfl A1 B1
  refine e1.trans ?_
  show computusref01_add.l0 (k + 5) [a0, a1, a2, a3, a4, a5] [b0, b1, b2, b3, b4, b5] [d0, d1, 0, 0, 0, 0] c2 2 = _
  obtain ⟨d2, c3, e2, D2, C3, E2⟩ := add_next (k + 4) (x0 := [a0, a1, a2, a3, a4, a5]) (x1 := [b0, b1, b2, b3, b4, b5]) (x5 := [d0, d1, 0, 0, 0, 0]) (c := c2) (i := 2) (u := a2) (v := b2) (by decide) (by decide) rfl rfl rfl C2 rfl rfl A2 B2
  refine e2.trans ?_
  show computusref01_add.l0 (k + 4) [a0, a1, a2, a3, a4, a5] [b0, b1, b2, b3, b4, b5] [d0, d1, d2, 0, 0, 0] c3 3 = _
  obtain ⟨d3, c4, e3, D3, C4, E3⟩ := add_next (k + 3) (x0 := [a0, a1, a2, a3, a4, a5]) (x1 := [b0, b1, b2, b3, b4, b5]) (x5 := [d0, d1, d2, 0, 0, 0]) (c := c3) (i := 3) (u := a3) (v := b3) (by decide) (by decide) rfl rfl rfl C3 rfl rfl A3 B3
  refine e3.trans ?_
  show computusref01_add.l0 (k + 3) [a0, a1, a2, a3, a4, a5] [b0, b1, b2, b3, b4, b5] [d0, d1, d2, d3, 0, 0] c4 4 = _
  obtain ⟨d4, c5, e4, D4, C5, E4⟩ := add_next (k + 2) (x0 := [a0, a1, a2, a3, a4, a5]) (x1 := [b0, b1, b2, b3, b4, b5]) (x5 := [d0, d1, d2, d3, 0, 0]) (c := c4) (i := 4) (u := a4) (v := b4) (by decide) (by decide) rfl rfl rfl C4 rfl rfl A4 B4
  refine e4.trans ?_
  show computusref01_add.l0 (k + 2) [a0, a1, a2, a3, a4, a5] [b0, b1, b2, b3, b4, b5] [d0, d1, d2, d3, d4, 0] c5 5 = _
  obtain ⟨d5, c6, e5, D5, C6, E5⟩ := add_next (k + 1) (x0 := [a0, a1, a2, a3, a4, a5]) (x1 := [b0, b1, b2, b3, b4, b5]) (x5 := [d0, d1, d2, d3, d4, 0]) (c := c5) (i := 5) (u := a5) (v := b5) (by decide) (by decide) rfl rfl rfl C5 rfl rfl A5 B5
  refine e5.trans ?_
  show computusref01_add.l0 (k + 1) [a0, a1, a2, a3, a4, a5] [b0, b1, b2, b3, b4, b5] [d0, d1, d2, d3, d4, d5] c6 6 = _
  simp only [computusref01_add.l0]
  have key := add_key E0 E1 E2 E3 E4 E5
  rw [← va, ← vb] at key
  rw [if_neg (by decide), dig_of ⟨D0, D1, D2, D3, D4, D5⟩ (mod_of key (hv_bd ⟨D0, D1, D2, D3, D4, D5⟩))]
theorem add_ev {a b : Int} (ha : 0 ≤ a) (hb : 0 ≤ b) (h : a + b < 6277101735386680763835789423207666416102355444464034512896) : Ev (fun k => computusref01_add.f k (dig a) (dig b)) (dig (a + b)) := by
  have e := Ev.of (computusref01_add.mono (dig a) (dig b)) (add_dig 0 ha (by omega) hb (by omega))
  rwa [show (a + b) % 6277101735386680763835789423207666416102355444464034512896 = a + b by omega] at e
theorem less_next (k : Nat) {x0 x1 x5 : List Int} {c i u v : Int} (h0 : 0 ≤ i) (h6 : i < 6) (l0 : x0.length = 6) (l1 : x1.length = 6) (l5 : x5.length = 6) (hc : 0 ≤ c ∧ c ≤ 1)
    (hu : rd x0 i = u) (hv : rd x1 i = v) (ub : 0 ≤ u ∧ u < 4294967296) (vb : 0 ≤ v ∧ v < 4294967296) :
    ∃ d c', computusref01_less.l0 (k + 1) x0 x1 x5 c i = computusref01_less.l0 k x0 x1 (x5.set i.toNat d) c' (i + 1) ∧ (0 ≤ d ∧ d < 4294967296) ∧ (0 ≤ c' ∧ c' ≤ 1) ∧ u - v - c = d - 4294967296 * c' := by
  refine ⟨(u + 4294967296 - v - c) % 4294967296, 1 - (u + 4294967296 - v - c) / 4294967296, ?_, part_bd _, by omega, by omega⟩
  simp only [computusref01_less.l0]
  rw [if_pos h6, if_pos h0, l0, l1, l5, if_pos (by omega), if_pos (by omega), if_pos (by omega), hu, hv, u64w (x := u + 4294967296) (by omega) (by omega), u64w (x := u + 4294967296 - v) (by omega) (by omega), u64w (x := u + 4294967296 - v - c) (by omega) (by omega), and32 (by omega) (by omega), u64w (x := 1 - (u + 4294967296 - v - c) / 4294967296) (by omega) (by omega), w64 (by omega) (by omega)]
theorem less_key {a0 a1 a2 a3 a4 a5 b0 b1 b2 b3 b4 b5 d0 d1 d2 d3 d4 d5 c1 c2 c3 c4 c5 c6 : Int} (h0 : a0 - b0 - 0 = d0 - 4294967296 * c1) (h1 : a1 - b1 - c1 = d1 - 4294967296 * c2) (h2 : a2 - b2 - c2 = d2 - 4294967296 * c3) (h3 : a3 - b3 - c3 = d3 - 4294967296 * c4) (h4 : a4 - b4 - c4 = d4 - 4294967296 * c5) (h5 : a5 - b5 - c5 = d5 - 4294967296 * c6) : (a0 + 4294967296 * (a1 + 4294967296 * (a2 + 4294967296 * (a3 + 4294967296 * (a4 + 4294967296 * (a5)))))) - (b0 + 4294967296 * (b1 + 4294967296 * (b2 + 4294967296 * (b3 + 4294967296 * (b4 + 4294967296 * (b5)))))) = (d0 + 4294967296 * (d1 + 4294967296 * (d2 + 4294967296 * (d3 + 4294967296 * (d4 + 4294967296 * (d5)))))) - 6277101735386680763835789423207666416102355444464034512896 * c6 := by omega
theorem sub_of {x D c : Int} (h : x = D - 6277101735386680763835789423207666416102355444464034512896 * c) (h0 : 0 ≤ D ∧ D < 6277101735386680763835789423207666416102355444464034512896) (hx : 0 ≤ x) (hx1 : x < 6277101735386680763835789423207666416102355444464034512896) : x = D := by omega
theorem less_dig (k : Nat) {a b : Int} (ha1 : a < 6277101735386680763835789423207666416102355444464034512896) (hb : 0 ≤ b) (hab : b ≤ a) : computusref01_less.f (k + 7) (dig a) (dig b) = some (dig (a - b)) := by
  have h1 : 0 ≤ a - b := by omega
  have h2 : a - b < 6277101735386680763835789423207666416102355444464034512896 := by omega
  obtain ⟨a0, a1, a2, a3, a4, a5, ea, ⟨A0, A1, A2, A3, A4, A5⟩, va⟩ := dig_form (a := a) (by omega) ha1
  obtain ⟨b0, b1, b2, b3, b4, b5, eb, ⟨B0, B1, B2, B3, B4, B5⟩, vb⟩ := dig_form hb (by omega)
  clear ha1 hb hab
  rw [ea, eb]
  unfold computusref01_less.f
  rw [if_pos (by decide), show (List.replicate 6 0 : List Int) = [0, 0, 0, 0, 0, 0] from rfl]
  have C0 : (0 : Int) ≤ 0 ∧ (0 : Int) ≤ 1 := by decide
  obtain ⟨d0, c1, e0, D0, C1, E0⟩ := less_next (k + 6) (x0 := [a0, a1, a2, a3, a4, a5]) (x1 := [b0, b1, b2, b3, b4, b5]) (x5 := [0, 0, 0, 0, 0, 0]) (c := 0) (i := 0) (u := a0) (v := b0) (by decide) (by decide) rfl rfl rfl C0 rfl rfl A0 B0
  refine e0.trans ?_
  show computusref01_less.l0 (k + 6) [a0, a1, a2, a3, a4, a5] [b0, b1, b2, b3, b4, b5] [d0, 0, 0, 0, 0, 0] c1 1 = _
  obtain ⟨d1, c2, e1, D1, C2, E1⟩ := less_next (k + 5) (x0 := [a0, a1, a2, a3, a4, a5]) (x1 := [b0, b1, b2, b3, b4, b5]) (x5 := [d0, 0, 0, 0, 0, 0]) (c := c1) (i := 1) (u := a1) (v := b1) (by decide) (by decide) rfl rfl rfl C1 rfl rfl A1 B1
  refine e1.trans ?_
  show computusref01_less.l0 (k + 5) [a0, a1, a2, a3, a4, a5] [b0, b1, b2, b3, b4, b5] [d0, d1, 0, 0, 0, 0] c2 2 = _
  obtain ⟨d2, c3, e2, D2, C3, E2⟩ := less_next (k + 4) (x0 := [a0, a1, a2, a3, a4, a5]) (x1 := [b0, b1, b2, b3, b4, b5]) (x5 := [d0, d1, 0, 0, 0, 0]) (c := c2) (i := 2) (u := a2) (v := b2) (by decide) (by decide) rfl rfl rfl C2 rfl rfl A2 B2
  refine e2.trans ?_
  show computusref01_less.l0 (k + 4) [a0, a1, a2, a3, a4, a5] [b0, b1, b2, b3, b4, b5] [d0, d1, d2, 0, 0, 0] c3 3 = _
  obtain ⟨d3, c4, e3, D3, C4, E3⟩ := less_next (k + 3) (x0 := [a0, a1, a2, a3, a4, a5]) (x1 := [b0, b1, b2, b3, b4, b5]) (x5 := [d0, d1, d2, 0, 0, 0]) (c := c3) (i := 3) (u := a3) (v := b3) (by decide) (by decide) rfl rfl rfl C3 rfl rfl A3 B3
  refine e3.trans ?_
  show computusref01_less.l0 (k + 3) [a0, a1, a2, a3, a4, a5] [b0, b1, b2, b3, b4, b5] [d0, d1, d2, d3, 0, 0] c4 4 = _
  obtain ⟨d4, c5, e4, D4, C5, E4⟩ := less_next (k + 2) (x0 := [a0, a1, a2, a3, a4, a5]) (x1 := [b0, b1, b2, b3, b4, b5]) (x5 := [d0, d1, d2, d3, 0, 0]) (c := c4) (i := 4) (u := a4) (v := b4) (by decide) (by decide) rfl rfl rfl C4 rfl rfl A4 B4
  refine e4.trans ?_
  show computusref01_less.l0 (k + 2) [a0, a1, a2, a3, a4, a5] [b0, b1, b2, b3, b4, b5] [d0, d1, d2, d3, d4, 0] c5 5 = _
  obtain ⟨d5, c6, e5, D5, C6, E5⟩ := less_next (k + 1) (x0 := [a0, a1, a2, a3, a4, a5]) (x1 := [b0, b1, b2, b3, b4, b5]) (x5 := [d0, d1, d2, d3, d4, 0]) (c := c5) (i := 5) (u := a5) (v := b5) (by decide) (by decide) rfl rfl rfl C5 rfl rfl A5 B5
  refine e5.trans ?_
  show computusref01_less.l0 (k + 1) [a0, a1, a2, a3, a4, a5] [b0, b1, b2, b3, b4, b5] [d0, d1, d2, d3, d4, d5] c6 6 = _
  simp only [computusref01_less.l0]
  have key := less_key E0 E1 E2 E3 E4 E5
  rw [← va, ← vb] at key
  rw [if_neg (by decide), dig_of ⟨D0, D1, D2, D3, D4, D5⟩ (sub_of key (hv_bd ⟨D0, D1, D2, D3, D4, D5⟩) h1 h2)]
theorem less_ev {a b : Int} (ha1 : a < 6277101735386680763835789423207666416102355444464034512896) (hb : 0 ≤ b) (hab : b ≤ a) : Ev (fun k => computusref01_less.f k (dig a) (dig b)) (dig (a - b)) :=
  Ev.of (computusref01_less.mono (dig a) (dig b)) (less_dig 0 ha1 hb hab)
def sgn (a b : Int) : Int := if a < b then -1 else if b < a then 1 else 0
theorem sgn_lt {a b : Int} (h : a < b) : sgn a b = -1 := if_pos h
theorem sgn_gt {a b : Int} (h : b < a) : sgn a b = 1 := by unfold sgn; rw [if_neg (by omega), if_pos h]
theorem sgn_eq {a b : Int} (h : a = b) : sgn a b = 0 := by unfold sgn; rw [if_neg (by omega), if_neg (by omega)]
theorem lt_in {x y u v : Int} (hx : 0 ≤ x ∧ x < 4294967296) (hy : 0 ≤ y ∧ y < 4294967296) (h : u < v) : x + 4294967296 * u < y + 4294967296 * v := by omega
theorem lt_at {x y u v : Int} (h : x < y) (e : u = v) : x + 4294967296 * u < y + 4294967296 * v := by omega
theorem eq_in {x y u v : Int} (h : x = y) (e : u = v) : x + 4294967296 * u = y + 4294967296 * v := by omega
theorem eq_of_not {x y : Int} (h : ¬ x < y) (g : ¬ x > y) : x = y := by omega
theorem cmp_step (k : Nat) {x0 x1 : List Int} {i u v : Int} (h0 : 0 ≤ i) (h6 : i < 6) (l0 : x0.length = 6) (l1 : x1.length = 6) (hu : rd x0 i = u) (hv : rd x1 i = v) :
    computusref01_cmp.l0 (k + 1) x0 x1 i = if u < v then some (-1) else if u > v then some 1 else computusref01_cmp.l0 k x0 x1 (i - 1) := by
  simp only [computusref01_cmp.l0]
  rw [if_pos (by omega), if_pos h0, l0, l1, if_pos (by omega), if_pos (by omega), hu, hv, w64 (by omega) (by omega)]
theorem cmp_dig (k : Nat) {a b : Int} (ha : 0 ≤ a) (ha1 : a < 6277101735386680763835789423207666416102355444464034512896) (hb : 0 ≤ b) (hb1 : b < 6277101735386680763835789423207666416102355444464034512896) : computusref01_cmp.f (k + 7) (dig a) (dig b) = some (sgn a b) := by
  obtain ⟨a0, a1, a2, a3, a4, a5, ea, ⟨A0, A1, A2, A3, A4, A5⟩, va⟩ := dig_form ha ha1
  obtain ⟨b0, b1, b2, b3, b4, b5, eb, ⟨B0, B1, B2, B3, B4, B5⟩, vb⟩ := dig_form hb hb1
  clear ha ha1 hb hb1
  rw [ea, eb]
  unfold computusref01_cmp.f
  rw [cmp_step (k + 6) (i := 5) (u := a5) (v := b5) (by decide) (by decide) rfl rfl rfl rfl]
  by_cases g5 : a5 < b5
  · rw [if_pos g5, va, vb, sgn_lt (lt_in A0 B0 (lt_in A1 B1 (lt_in A2 B2 (lt_in A3 B3 (lt_in A4 B4 (g5))))))]
  rw [if_neg g5]
  by_cases f5 : a5 > b5
  · rw [if_pos f5, va, vb, sgn_gt (lt_in B0 A0 (lt_in B1 A1 (lt_in B2 A2 (lt_in B3 A3 (lt_in B4 A4 (f5))))))]
  rw [if_neg f5]
  have Q5 := eq_of_not g5 f5
  show computusref01_cmp.l0 (k + 6) [a0, a1, a2, a3, a4, a5] [b0, b1, b2, b3, b4, b5] 4 = _
  rw [cmp_step (k + 5) (i := 4) (u := a4) (v := b4) (by decide) (by decide) rfl rfl rfl rfl]
  by_cases g4 : a4 < b4
  · rw [if_pos g4, va, vb, sgn_lt (lt_in A0 B0 (lt_in A1 B1 (lt_in A2 B2 (lt_in A3 B3 (lt_at g4 Q5)))))]
  rw [if_neg g4]
  by_cases f4 : a4 > b4
  · rw [if_pos f4, va, vb, sgn_gt (lt_in B0 A0 (lt_in B1 A1 (lt_in B2 A2 (lt_in B3 A3 (lt_at f4 Q5.symm)))))]
  rw [if_neg f4]
  have Q4 := eq_in (eq_of_not g4 f4) Q5
  show computusref01_cmp.l0 (k + 5) [a0, a1, a2, a3, a4, a5] [b0, b1, b2, b3, b4, b5] 3 = _
  rw [cmp_step (k + 4) (i := 3) (u := a3) (v := b3) (by decide) (by decide) rfl rfl rfl rfl]
  by_cases g3 : a3 < b3
  · rw [if_pos g3, va, vb, sgn_lt (lt_in A0 B0 (lt_in A1 B1 (lt_in A2 B2 (lt_at g3 Q4))))]
  rw [if_neg g3]
  by_cases f3 : a3 > b3
  · rw [if_pos f3, va, vb, sgn_gt (lt_in B0 A0 (lt_in B1 A1 (lt_in B2 A2 (lt_at f3 Q4.symm))))]
  rw [if_neg f3]
  have Q3 := eq_in (eq_of_not g3 f3) Q4
  show computusref01_cmp.l0 (k + 4) [a0, a1, a2, a3, a4, a5] [b0, b1, b2, b3, b4, b5] 2 = _
  rw [cmp_step (k + 3) (i := 2) (u := a2) (v := b2) (by decide) (by decide) rfl rfl rfl rfl]
  by_cases g2 : a2 < b2
  · rw [if_pos g2, va, vb, sgn_lt (lt_in A0 B0 (lt_in A1 B1 (lt_at g2 Q3)))]
  rw [if_neg g2]
  by_cases f2 : a2 > b2
  · rw [if_pos f2, va, vb, sgn_gt (lt_in B0 A0 (lt_in B1 A1 (lt_at f2 Q3.symm)))]
  rw [if_neg f2]
  have Q2 := eq_in (eq_of_not g2 f2) Q3
  show computusref01_cmp.l0 (k + 3) [a0, a1, a2, a3, a4, a5] [b0, b1, b2, b3, b4, b5] 1 = _
  rw [cmp_step (k + 2) (i := 1) (u := a1) (v := b1) (by decide) (by decide) rfl rfl rfl rfl]
  by_cases g1 : a1 < b1
  · rw [if_pos g1, va, vb, sgn_lt (lt_in A0 B0 (lt_at g1 Q2))]
  rw [if_neg g1]
  by_cases f1 : a1 > b1
  · rw [if_pos f1, va, vb, sgn_gt (lt_in B0 A0 (lt_at f1 Q2.symm))]
  rw [if_neg f1]
  have Q1 := eq_in (eq_of_not g1 f1) Q2
  show computusref01_cmp.l0 (k + 2) [a0, a1, a2, a3, a4, a5] [b0, b1, b2, b3, b4, b5] 0 = _
  rw [cmp_step (k + 1) (i := 0) (u := a0) (v := b0) (by decide) (by decide) rfl rfl rfl rfl]
  by_cases g0 : a0 < b0
  · rw [if_pos g0, va, vb, sgn_lt (lt_at g0 Q1)]
  rw [if_neg g0]
  by_cases f0 : a0 > b0
  · rw [if_pos f0, va, vb, sgn_gt (lt_at f0 Q1.symm)]
  rw [if_neg f0]
  have Q0 := eq_in (eq_of_not g0 f0) Q1
  show computusref01_cmp.l0 (k + 1) [a0, a1, a2, a3, a4, a5] [b0, b1, b2, b3, b4, b5] (-1) = _
  simp only [computusref01_cmp.l0]
  rw [if_neg (by decide), va, vb, sgn_eq Q0]
theorem cmp_ev {a b : Int} (ha : 0 ≤ a) (ha1 : a < 6277101735386680763835789423207666416102355444464034512896) (hb : 0 ≤ b) (hb1 : b < 6277101735386680763835789423207666416102355444464034512896) : Ev (fun k => computusref01_cmp.f k (dig a) (dig b)) (sgn a b) :=
  Ev.of (computusref01_cmp.mono (dig a) (dig b)) (cmp_dig 0 ha ha1 hb hb1)
theorem zero_ev {a : Int} (ha : 0 ≤ a) (ha1 : a < 6277101735386680763835789423207666416102355444464034512896) : Ev (fun k => computusref01_zero.f k (dig a)) (decide (a = 0)) := by
  unfold computusref01_zero.f
  simp only [if_pos (show (6 : Int) ≤ 35184372088832 by omega), ← dig_zero]
  refine Ev.bind (cmp_ev ha ha1 (by omega) (by omega)) ?_
  have e : (sgn a 0 == 0) = decide (a = 0) := by
    unfold sgn
    by_cases h : a = 0
    · subst h; rfl
    · rw [if_neg (by omega), if_pos (by omega), decide_eq_false h]; rfl
  rw [e]; exact Ev.now _
end Go.Proofs.Yteceeoaabmbckaa.Civ
