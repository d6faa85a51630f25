/- What the reference's wide numbers come to: six parts of 32 bits each, told of the whole number that they stand for. -/
import Derived.Test.YthkmckmfgglafaaGreatQodjccgdkli
import Derived.Test.YthkmckmfgglafaaGreatQefmlpbeiik
import Derived.Test.YthkmckmfgglafaaGreatQjcdbecpohe
import Derived.Test.YthkmckmfgglafaaGreatQalikfpobko
import Derived.Test.YthkmckmfgglafaaGreatQandhgkkbfd
import Derived.Test.YthkmckmfgglafaaGreatQacoejdoegp
import Derived.Test.YthkmckmfgglafaaGreatQbagfbamkkf
import Derived.Test.YthkmckmfgglafaaGreatQchboofcopo
import Derived.Test.YthkmckmfgglafaaGreatQdgbgjngdfo
import Derived.Test.YthkmckmfgglafaaGreatQpdplgpnbob
namespace Go.Proofs.YthkmckmfgglafaaGreat.Civ
set_option linter.unusedVariables false
set_option linter.unusedSimpArgs false
open Go.RowKit Go.Proofs.YthkmckmfgglafaaGreatW.PrintWords Go.Proofs.YthkmckmfgglafaaGreatW.PrintLast Go.Proofs.YthkmckmfgglafaaGreatW.PrintMore Go.Proofs.YthkmckmfgglafaaGreat.P
theorem u64m (x : Int) : IntKind.u64.wrap x = x % 18446744073709551616 := by simp [IntKind.wrap, IntKind.bits, IntKind.signed]
theorem u64w {x : Int} (h1 : 0 ≤ x) (h2 : x ≤ 18446744073709551615) : IntKind.u64.wrap x = x := by rw [u64m]; omega
theorem wraps_u64 (n : Int) (h₀ : 0 ≤ n) (h₁ : n < 2 ^ 64) : IntKind.u64.wrap n = n := by rw [u64m]; omega
theorem and32 {x : Int} (h1 : 0 ≤ x) (h2 : x ≤ 18446744073709551615) : Go.bits .and .u64 x 4294967295 = x % 4294967296 :=
  bits_mask .u64 64 (by decide) wraps_u64 32 (by decide) x h1 (by omega)
/-- Two parts that do not overlap. -/
theorem orj (i : Nat) (hi : i ≤ 63) {x y : Int} (hx0 : 0 ≤ x) (hx : x % 2 ^ i = 0) (hx1 : x ≤ 18446744073709551615) (hy0 : 0 ≤ y) (hy : y < 2 ^ i) : Go.bits .or .u64 x y = x + y := by
  refine bits_join .u64 64 (by decide) wraps_u64 i x y hx0 hx (by omega) hy0 hy ?_
  have : (2 : Int) ^ i ≤ 2 ^ 63 := by exact_mod_cast Nat.pow_le_pow_right (by decide) hi
  omega
/-- Its six parts. -/
def dig (n : Int) : List Int := [n % 4294967296, n / 4294967296 % 4294967296, n / 4294967296 / 4294967296 % 4294967296, n / 4294967296 / 4294967296 / 4294967296 % 4294967296, n / 4294967296 / 4294967296 / 4294967296 / 4294967296 % 4294967296, n / 4294967296 / 4294967296 / 4294967296 / 4294967296 / 4294967296 % 4294967296]
theorem part_bd (x : Int) : 0 ≤ x % 4294967296 ∧ x % 4294967296 < 4294967296 := by omega
theorem part_eq (x : Int) : x = x % 4294967296 + 4294967296 * (x / 4294967296) := by omega
theorem dig_form {a : Int} (h0 : 0 ≤ a) (h1 : a < 6277101735386680763835789423207666416102355444464034512896) : ∃ a0 a1 a2 a3 a4 a5, dig a = [a0, a1, a2, a3, a4, a5] ∧ ((0 ≤ a0 ∧ a0 < 4294967296) ∧ (0 ≤ a1 ∧ a1 < 4294967296) ∧ (0 ≤ a2 ∧ a2 < 4294967296) ∧ (0 ≤ a3 ∧ a3 < 4294967296) ∧ (0 ≤ a4 ∧ a4 < 4294967296) ∧ (0 ≤ a5 ∧ a5 < 4294967296)) ∧ a = a0 + 4294967296 * (a1 + 4294967296 * (a2 + 4294967296 * (a3 + 4294967296 * (a4 + 4294967296 * (a5))))) := by
  refine ⟨_, _, _, _, _, _, rfl, ⟨part_bd _, part_bd _, part_bd _, part_bd _, part_bd _, part_bd _⟩, ?_⟩
  have e : a / 4294967296 / 4294967296 / 4294967296 / 4294967296 / 4294967296 % 4294967296 = a / 4294967296 / 4294967296 / 4294967296 / 4294967296 / 4294967296 := by
    have h : a / 4294967296 / 4294967296 / 4294967296 / 4294967296 / 4294967296 = a / 1461501637330902918203684832716283019655932542976 := by omega
    omega
  rw [e, ← part_eq, ← part_eq, ← part_eq, ← part_eq, ← part_eq]
theorem part_lo {x y : Int} (h : 0 ≤ x ∧ x < 4294967296) : (x + 4294967296 * y) % 4294967296 = x ∧ (x + 4294967296 * y) / 4294967296 = y := by omega
theorem dig_of {a : Int} {a0 a1 a2 a3 a4 a5 : Int} (h : (0 ≤ a0 ∧ a0 < 4294967296) ∧ (0 ≤ a1 ∧ a1 < 4294967296) ∧ (0 ≤ a2 ∧ a2 < 4294967296) ∧ (0 ≤ a3 ∧ a3 < 4294967296) ∧ (0 ≤ a4 ∧ a4 < 4294967296) ∧ (0 ≤ a5 ∧ a5 < 4294967296)) (e : a = a0 + 4294967296 * (a1 + 4294967296 * (a2 + 4294967296 * (a3 + 4294967296 * (a4 + 4294967296 * (a5)))))) : dig a = [a0, a1, a2, a3, a4, a5] := by
  obtain ⟨h0, h1, h2, h3, h4, h5⟩ := h
  have h6 : a5 % 4294967296 = a5 := by omega
  unfold dig
  rw [e]
  simp only [(part_lo h0).1, (part_lo h0).2, (part_lo h1).1, (part_lo h1).2, (part_lo h2).1, (part_lo h2).2, (part_lo h3).1, (part_lo h3).2, (part_lo h4).1, (part_lo h4).2, h6]
theorem dig_zero : dig 0 = List.replicate 6 0 := rfl
theorem dig_length (a : Int) : (dig a).length = 6 := rfl
theorem hv_bd {a0 a1 a2 a3 a4 a5 : Int} (h : (0 ≤ a0 ∧ a0 < 4294967296) ∧ (0 ≤ a1 ∧ a1 < 4294967296) ∧ (0 ≤ a2 ∧ a2 < 4294967296) ∧ (0 ≤ a3 ∧ a3 < 4294967296) ∧ (0 ≤ a4 ∧ a4 < 4294967296) ∧ (0 ≤ a5 ∧ a5 < 4294967296)) : 0 ≤ a0 + 4294967296 * (a1 + 4294967296 * (a2 + 4294967296 * (a3 + 4294967296 * (a4 + 4294967296 * (a5))))) ∧ a0 + 4294967296 * (a1 + 4294967296 * (a2 + 4294967296 * (a3 + 4294967296 * (a4 + 4294967296 * (a5))))) < 6277101735386680763835789423207666416102355444464034512896 := by
  obtain ⟨h0, h1, h2, h3, h4, h5⟩ := h
  have g4 : 0 ≤ a4 + 4294967296 * a5 ∧ a4 + 4294967296 * a5 < 18446744073709551616 := by omega
  generalize a4 + 4294967296 * a5 = x4 at *
  have g3 : 0 ≤ a3 + 4294967296 * x4 ∧ a3 + 4294967296 * x4 < 79228162514264337593543950336 := by omega
  generalize a3 + 4294967296 * x4 = x3 at *
  have g2 : 0 ≤ a2 + 4294967296 * x3 ∧ a2 + 4294967296 * x3 < 340282366920938463463374607431768211456 := by omega
  generalize a2 + 4294967296 * x3 = x2 at *
  have g1 : 0 ≤ a1 + 4294967296 * x2 ∧ a1 + 4294967296 * x2 < 1461501637330902918203684832716283019655932542976 := by omega
  generalize a1 + 4294967296 * x2 = x1 at *
  omega
theorem mod_of {x D c : Int} (h : x = D + 6277101735386680763835789423207666416102355444464034512896 * c) (h0 : 0 ≤ D ∧ D < 6277101735386680763835789423207666416102355444464034512896) : x % 6277101735386680763835789423207666416102355444464034512896 = D := by omega
theorem add_next (k : Nat) {x0 x1 x5 : List Int} {c i u v : Int} (h0 : 0 ≤ i) (h6 : i < 6) (l0 : x0.length = 6) (l1 : x1.length = 6) (l5 : x5.length = 6) (hc : 0 ≤ c ∧ c ≤ 1)
    (hu : rd x0 i = u) (hv : rd x1 i = v) (ub : 0 ≤ u ∧ u < 4294967296) (vb : 0 ≤ v ∧ v < 4294967296) :
    ∃ d c', computusref01_add.l0 (k + 1) x0 x1 x5 c i = computusref01_add.l0 k x0 x1 (x5.set i.toNat d) c' (i + 1) ∧ (0 ≤ d ∧ d < 4294967296) ∧ (0 ≤ c' ∧ c' ≤ 1) ∧ c + u + v = d + 4294967296 * c' := by
  refine ⟨(c + u + v) % 4294967296, (c + u + v) / 4294967296, ?_, part_bd _, by omega, part_eq _⟩
  simp only [computusref01_add.l0]
  rw [if_pos h6, if_pos h0, l0, l1, l5, if_pos (by omega), if_pos (by omega), if_pos (by omega), hu, hv, u64w (x := c + u) (by omega) (by omega), u64w (x := c + u + v) (by omega) (by omega), and32 (by omega) (by omega), w64 (by omega) (by omega)]
theorem add_key {a0 a1 a2 a3 a4 a5 b0 b1 b2 b3 b4 b5 d0 d1 d2 d3 d4 d5 c1 c2 c3 c4 c5 c6 : Int} (h0 : 0 + a0 + b0 = d0 + 4294967296 * c1) (h1 : c1 + a1 + b1 = d1 + 4294967296 * c2) (h2 : c2 + a2 + b2 = d2 + 4294967296 * c3) (h3 : c3 + a3 + b3 = d3 + 4294967296 * c4) (h4 : c4 + a4 + b4 = d4 + 4294967296 * c5) (h5 : c5 + a5 + b5 = d5 + 4294967296 * c6) : (a0 + 4294967296 * (a1 + 4294967296 * (a2 + 4294967296 * (a3 + 4294967296 * (a4 + 4294967296 * (a5)))))) + (b0 + 4294967296 * (b1 + 4294967296 * (b2 + 4294967296 * (b3 + 4294967296 * (b4 + 4294967296 * (b5)))))) = (d0 + 4294967296 * (d1 + 4294967296 * (d2 + 4294967296 * (d3 + 4294967296 * (d4 + 4294967296 * (d5)))))) + 6277101735386680763835789423207666416102355444464034512896 * c6 := by omega
theorem add_dig (k : Nat) {a b : Int} (ha : 0 ≤ a) (ha1 : a < 6277101735386680763835789423207666416102355444464034512896) (hb : 0 ≤ b) (hb1 : b < 6277101735386680763835789423207666416102355444464034512896) : computusref01_add.f (k + 7) (dig a) (dig b) = some (dig ((a + b) % 6277101735386680763835789423207666416102355444464034512896)) := by
  obtain ⟨a0, a1, a2, a3, a4, a5, ea, ⟨A0, A1, A2, A3, A4, A5⟩, va⟩ := dig_form ha ha1
  obtain ⟨b0, b1, b2, b3, b4, b5, eb, ⟨B0, B1, B2, B3, B4, B5⟩, vb⟩ := dig_form hb hb1
  clear ha ha1 hb hb1
  rw [ea, eb]
  unfold computusref01_add.f
  rw [if_pos (by decide), show (List.replicate 6 0 : List Int) = [0, 0, 0, 0, 0, 0] from rfl]
  have C0 : (0 : Int) ≤ 0 ∧ (0 : Int) ≤ 1 := by decide
  obtain ⟨d0, c1, e0, D0, C1, E0⟩ := add_next (k + 6) (x0 := [a0, a1, a2, a3, a4, a5]) (x1 := [b0, b1, b2, b3, b4, b5]) (x5 := [0, 0, 0, 0, 0, 0]) (c := 0) (i := 0) (u := a0) (v := b0) (by decide) (by decide) rfl rfl rfl C0 rfl rfl A0 B0
  refine e0.trans ?_
  show computusref01_add.l0 (k + 6) [a0, a1, a2, a3, a4, a5] [b0, b1, b2, b3, b4, b5] [d0, 0, 0, 0, 0, 0] c1 1 = _
  obtain ⟨d1, c2, e1, D1, C2, E1⟩ := add_next (k + 5) (x0 := [a0, a1, a2, a3, a4, a5]) (x1 := [b0, b1, b2, b3, b4, b5]) (x5 := [d0, 0, 0, 0, 0, 0]) (c := c1) (i := 1) (u := a1) (v := b1) (by decide) (by decide) rfl rfl rfl C1 rfl rfl A1 B1
  refine e1.trans ?_
  show computusref01_add.l0 (k + 5) [a0, a1, a2, a3, a4, a5] [b0, b1, b2, b3, b4, b5] [d0, d1, 0, 0, 0, 0] c2 2 = _
  obtain ⟨d2, c3, e2, D2, C3, E2⟩ := add_next (k + 4) (x0 := [a0, a1, a2, a3, a4, a5]) (x1 := [b0, b1, b2, b3, b4, b5]) (x5 := [d0, d1, 0, 0, 0, 0]) (c := c2) (i := 2) (u := a2) (v := b2) (by decide) (by decide) rfl rfl rfl C2 rfl rfl A2 B2
  refine e2.trans ?_
  show computusref01_add.l0 (k + 4) [a0, a1, a2, a3, a4, a5] [b0, b1, b2, b3, b4, b5] [d0, d1, d2, 0, 0, 0] c3 3 = _
  obtain ⟨d3, c4, e3, D3, C4, E3⟩ := add_next (k + 3) (x0 := [a0, a1, a2, a3, a4, a5]) (x1 := [b0, b1, b2, b3, b4, b5]) (x5 := [d0, d1, d2, 0, 0, 0]) (c := c3) (i := 3) (u := a3) (v := b3) (by decide) (by decide) rfl rfl rfl C3 rfl rfl A3 B3
  refine e3.trans ?_
  show computusref01_add.l0 (k + 3) [a0, a1, a2, a3, a4, a5] [b0, b1, b2, b3, b4, b5] [d0, d1, d2, d3, 0, 0] c4 4 = _
  obtain ⟨d4, c5, e4, D4, C5, E4⟩ := add_next (k + 2) (x0 := [a0, a1, a2, a3, a4, a5]) (x1 := [b0, b1, b2, b3, b4, b5]) (x5 := [d0, d1, d2, d3, 0, 0]) (c := c4) (i := 4) (u := a4) (v := b4) (by decide) (by decide) rfl rfl rfl C4 rfl rfl A4 B4
  refine e4.trans ?_
  show computusref01_add.l0 (k + 2) [a0, a1, a2, a3, a4, a5] [b0, b1, b2, b3, b4, b5] [d0, d1, d2, d3, d4, 0] c5 5 = _
  obtain ⟨d5, c6, e5, D5, C6, E5⟩ := add_next (k + 1) (x0 := [a0, a1, a2, a3, a4, a5]) (x1 := [b0, b1, b2, b3, b4, b5]) (x5 := [d0, d1, d2, d3, d4, 0]) (c := c5) (i := 5) (u := a5) (v := b5) (by decide) (by decide) rfl rfl rfl C5 rfl rfl A5 B5
  refine e5.trans ?_
  show computusref01_add.l0 (k + 1) [a0, a1, a2, a3, a4, a5] [b0, b1, b2, b3, b4, b5] [d0, d1, d2, d3, d4, d5] c6 6 = _
  simp only [computusref01_add.l0]
  have key := add_key E0 E1 E2 E3 E4 E5
  rw [← va, ← vb] at key
  rw [if_neg (by decide), dig_of ⟨D0, D1, D2, D3, D4, D5⟩ (mod_of key (hv_bd ⟨D0, D1, D2, D3, D4, D5⟩))]
theorem add_ev {a b : Int} (ha : 0 ≤ a) (hb : 0 ≤ b) (h : a + b < 6277101735386680763835789423207666416102355444464034512896) : Ev (fun k => computusref01_add.f k (dig a) (dig b)) (dig (a + b)) := by
  have e := Ev.of (computusref01_add.mono (dig a) (dig b)) (add_dig 0 ha (by omega) hb (by omega))
  rwa [show (a + b) % 6277101735386680763835789423207666416102355444464034512896 = a + b by omega] at e
theorem less_next (k : Nat) {x0 x1 x5 : List Int} {c i u v : Int} (h0 : 0 ≤ i) (h6 : i < 6) (l0 : x0.length = 6) (l1 : x1.length = 6) (l5 : x5.length = 6) (hc : 0 ≤ c ∧ c ≤ 1)
    (hu : rd x0 i = u) (hv : rd x1 i = v) (ub : 0 ≤ u ∧ u < 4294967296) (vb : 0 ≤ v ∧ v < 4294967296) :
    ∃ d c', computusref01_less.l0 (k + 1) x0 x1 x5 c i = computusref01_less.l0 k x0 x1 (x5.set i.toNat d) c' (i + 1) ∧ (0 ≤ d ∧ d < 4294967296) ∧ (0 ≤ c' ∧ c' ≤ 1) ∧ u - v - c = d - 4294967296 * c' := by
  refine ⟨(u + 4294967296 - v - c) % 4294967296, 1 - (u + 4294967296 - v - c) / 4294967296, ?_, part_bd _, by omega, by omega⟩
  simp only [computusref01_less.l0]
  rw [if_pos h6, if_pos h0, l0, l1, l5, if_pos (by omega), if_pos (by omega), if_pos (by omega), hu, hv, u64w (x := u + 4294967296) (by omega) (by omega), u64w (x := u + 4294967296 - v) (by omega) (by omega), u64w (x := u + 4294967296 - v - c) (by omega) (by omega), and32 (by omega) (by omega), u64w (x := 1 - (u + 4294967296 - v - c) / 4294967296) (by omega) (by omega), w64 (by omega) (by omega)]
theorem less_key {a0 a1 a2 a3 a4 a5 b0 b1 b2 b3 b4 b5 d0 d1 d2 d3 d4 d5 c1 c2 c3 c4 c5 c6 : Int} (h0 : a0 - b0 - 0 = d0 - 4294967296 * c1) (h1 : a1 - b1 - c1 = d1 - 4294967296 * c2) (h2 : a2 - b2 - c2 = d2 - 4294967296 * c3) (h3 : a3 - b3 - c3 = d3 - 4294967296 * c4) (h4 : a4 - b4 - c4 = d4 - 4294967296 * c5) (h5 : a5 - b5 - c5 = d5 - 4294967296 * c6) : (a0 + 4294967296 * (a1 + 4294967296 * (a2 + 4294967296 * (a3 + 4294967296 * (a4 + 4294967296 * (a5)))))) - (b0 + 4294967296 * (b1 + 4294967296 * (b2 + 4294967296 * (b3 + 4294967296 * (b4 + 4294967296 * (b5)))))) = (d0 + 4294967296 * (d1 + 4294967296 * (d2 + 4294967296 * (d3 + 4294967296 * (d4 + 4294967296 * (d5)))))) - 6277101735386680763835789423207666416102355444464034512896 * c6 := by omega
theorem sub_of {x D c : Int} (h : x = D - 6277101735386680763835789423207666416102355444464034512896 * c) (h0 : 0 ≤ D ∧ D < 6277101735386680763835789423207666416102355444464034512896) (hx : 0 ≤ x) (hx1 : x < 6277101735386680763835789423207666416102355444464034512896) : x = D := by omega
theorem less_dig (k : Nat) {a b : Int} (ha1 : a < 6277101735386680763835789423207666416102355444464034512896) (hb : 0 ≤ b) (hab : b ≤ a) : computusref01_less.f (k + 7) (dig a) (dig b) = some (dig (a - b)) := by
  have h1 : 0 ≤ a - b := by omega
  have h2 : a - b < 6277101735386680763835789423207666416102355444464034512896 := by omega
  obtain ⟨a0, a1, a2, a3, a4, a5, ea, ⟨A0, A1, A2, A3, A4, A5⟩, va⟩ := dig_form (a := a) (by omega) ha1
  obtain ⟨b0, b1, b2, b3, b4, b5, eb, ⟨B0, B1, B2, B3, B4, B5⟩, vb⟩ := dig_form hb (by omega)
  clear ha1 hb hab
  rw [ea, eb]
  unfold computusref01_less.f
  rw [if_pos (by decide), show (List.replicate 6 0 : List Int) = [0, 0, 0, 0, 0, 0] from rfl]
  have C0 : (0 : Int) ≤ 0 ∧ (0 : Int) ≤ 1 := by decide
  obtain ⟨d0, c1, e0, D0, C1, E0⟩ := less_next (k + 6) (x0 := [a0, a1, a2, a3, a4, a5]) (x1 := [b0, b1, b2, b3, b4, b5]) (x5 := [0, 0, 0, 0, 0, 0]) (c := 0) (i := 0) (u := a0) (v := b0) (by decide) (by decide) rfl rfl rfl C0 rfl rfl A0 B0
  refine e0.trans ?_
  show computusref01_less.l0 (k + 6) [a0, a1, a2, a3, a4, a5] [b0, b1, b2, b3, b4, b5] [d0, 0, 0, 0, 0, 0] c1 1 = _
  obtain ⟨d1, c2, e1, D1, C2, E1⟩ := less_next (k + 5) (x0 := [a0, a1, a2, a3, a4, a5]) (x1 := [b0, b1, b2, b3, b4, b5]) (x5 := [d0, 0, 0, 0, 0, 0]) (c := c1) (i := 1) (u := a1) (v := b1) (by decide) (by decide) rfl rfl rfl C1 rfl rfl A1 B1
  refine e1.trans ?_
  show computusref01_less.l0 (k + 5) [a0, a1, a2, a3, a4, a5] [b0, b1, b2, b3, b4, b5] [d0, d1, 0, 0, 0, 0] c2 2 = _
  obtain ⟨d2, c3, e2, D2, C3, E2⟩ := less_next (k + 4) (x0 := [a0, a1, a2, a3, a4, a5]) (x1 := [b0, b1, b2, b3, b4, b5]) (x5 := [d0, d1, 0, 0, 0, 0]) (c := c2) (i := 2) (u := a2) (v := b2) (by decide) (by decide) rfl rfl rfl C2 rfl rfl A2 B2
  refine e2.trans ?_
  show computusref01_less.l0 (k + 4) [a0, a1, a2, a3, a4, a5] [b0, b1, b2, b3, b4, b5] [d0, d1, d2, 0, 0, 0] c3 3 = _
  obtain ⟨d3, c4, e3, D3, C4, E3⟩ := less_next (k + 3) (x0 := [a0, a1, a2, a3, a4, a5]) (x1 := [b0, b1, b2, b3, b4, b5]) (x5 := [d0, d1, d2, 0, 0, 0]) (c := c3) (i := 3) (u := a3) (v := b3) (by decide) (by decide) rfl rfl rfl C3 rfl rfl A3 B3
  refine e3.trans ?_
  show computusref01_less.l0 (k + 3) [a0, a1, a2, a3, a4, a5] [b0, b1, b2, b3, b4, b5] [d0, d1, d2, d3, 0, 0] c4 4 = _
  obtain ⟨d4, c5, e4, D4, C5, E4⟩ := less_next (k + 2) (x0 := [a0, a1, a2, a3, a4, a5]) (x1 := [b0, b1, b2, b3, b4, b5]) (x5 := [d0, d1, d2, d3, 0, 0]) (c := c4) (i := 4) (u := a4) (v := b4) (by decide) (by decide) rfl rfl rfl C4 rfl rfl A4 B4
  refine e4.trans ?_
  show computusref01_less.l0 (k + 2) [a0, a1, a2, a3, a4, a5] [b0, b1, b2, b3, b4, b5] [d0, d1, d2, d3, d4, 0] c5 5 = _
  obtain ⟨d5, c6, e5, D5, C6, E5⟩ := less_next (k + 1) (x0 := [a0, a1, a2, a3, a4, a5]) (x1 := [b0, b1, b2, b3, b4, b5]) (x5 := [d0, d1, d2, d3, d4, 0]) (c := c5) (i := 5) (u := a5) (v := b5) (by decide) (by decide) rfl rfl rfl C5 rfl rfl A5 B5
  refine e5.trans ?_
  show computusref01_less.l0 (k + 1) [a0, a1, a2, a3, a4, a5] [b0, b1, b2, b3, b4, b5] [d0, d1, d2, d3, d4, d5] c6 6 = _
  simp only [computusref01_less.l0]
  have key := less_key E0 E1 E2 E3 E4 E5
  rw [← va, ← vb] at key
  rw [if_neg (by decide), dig_of ⟨D0, D1, D2, D3, D4, D5⟩ (sub_of key (hv_bd ⟨D0, D1, D2, D3, D4, D5⟩) h1 h2)]
theorem less_ev {a b : Int} (ha1 : a < 6277101735386680763835789423207666416102355444464034512896) (hb : 0 ≤ b) (hab : b ≤ a) : Ev (fun k => computusref01_less.f k (dig a) (dig b)) (dig (a - b)) :=
  Ev.of (computusref01_less.mono (dig a) (dig b)) (less_dig 0 ha1 hb hab)
def sgn (a b : Int) : Int := if a < b then -1 else if b < a then 1 else 0
theorem sgn_lt {a b : Int} (h : a < b) : sgn a b = -1 := if_pos h
theorem sgn_gt {a b : Int} (h : b < a) : sgn a b = 1 := by unfold sgn; rw [if_neg (by omega), if_pos h]
theorem sgn_eq {a b : Int} (h : a = b) : sgn a b = 0 := by unfold sgn; rw [if_neg (by omega), if_neg (by omega)]
theorem lt_in {x y u v : Int} (hx : 0 ≤ x ∧ x < 4294967296) (hy : 0 ≤ y ∧ y < 4294967296) (h : u < v) : x + 4294967296 * u < y + 4294967296 * v := by omega
theorem lt_at {x y u v : Int} (h : x < y) (e : u = v) : x + 4294967296 * u < y + 4294967296 * v := by omega
theorem eq_in {x y u v : Int} (h : x = y) (e : u = v) : x + 4294967296 * u = y + 4294967296 * v := by omega
theorem eq_of_not {x y : Int} (h : ¬ x < y) (g : ¬ x > y) : x = y := by omega
theorem cmp_step (k : Nat) {x0 x1 : List Int} {i u v : Int} (h0 : 0 ≤ i) (h6 : i < 6) (l0 : x0.length = 6) (l1 : x1.length = 6) (hu : rd x0 i = u) (hv : rd x1 i = v) :
    computusref01_cmp.l0 (k + 1) x0 x1 i = if u < v then some (-1) else if u > v then some 1 else computusref01_cmp.l0 k x0 x1 (i - 1) := by
  simp only [computusref01_cmp.l0]
  rw [if_pos (by omega), if_pos h0, l0, l1, if_pos (by omega), if_pos (by omega), hu, hv, w64 (by omega) (by omega)]
theorem cmp_dig (k : Nat) {a b : Int} (ha : 0 ≤ a) (ha1 : a < 6277101735386680763835789423207666416102355444464034512896) (hb : 0 ≤ b) (hb1 : b < 6277101735386680763835789423207666416102355444464034512896) : computusref01_cmp.f (k + 7) (dig a) (dig b) = some (sgn a b) := by
  obtain ⟨a0, a1, a2, a3, a4, a5, ea, ⟨A0, A1, A2, A3, A4, A5⟩, va⟩ := dig_form ha ha1
  obtain ⟨b0, b1, b2, b3, b4, b5, eb, ⟨B0, B1, B2, B3, B4, B5⟩, vb⟩ := dig_form hb hb1
  clear ha ha1 hb hb1
  rw [ea, eb]
  unfold computusref01_cmp.f
  rw [cmp_step (k + 6) (i := 5) (u := a5) (v := b5) (by decide) (by decide) rfl rfl rfl rfl]
  by_cases g5 : a5 < b5
  · rw [if_pos g5, va, vb, sgn_lt (lt_in A0 B0 (lt_in A1 B1 (lt_in A2 B2 (lt_in A3 B3 (lt_in A4 B4 (g5))))))]
  rw [if_neg g5]
  by_cases f5 : a5 > b5
  · rw [if_pos f5, va, vb, sgn_gt (lt_in B0 A0 (lt_in B1 A1 (lt_in B2 A2 (lt_in B3 A3 (lt_in B4 A4 (f5))))))]
  rw [if_neg f5]
  have Q5 := eq_of_not g5 f5
  show computusref01_cmp.l0 (k + 6) [a0, a1, a2, a3, a4, a5] [b0, b1, b2, b3, b4, b5] 4 = _
  rw [cmp_step (k + 5) (i := 4) (u := a4) (v := b4) (by decide) (by decide) rfl rfl rfl rfl]
  by_cases g4 : a4 < b4
  · rw [if_pos g4, va, vb, sgn_lt (lt_in A0 B0 (lt_in A1 B1 (lt_in A2 B2 (lt_in A3 B3 (lt_at g4 Q5)))))]
  rw [if_neg g4]
  by_cases f4 : a4 > b4
  · rw [if_pos f4, va, vb, sgn_gt (lt_in B0 A0 (lt_in B1 A1 (lt_in B2 A2 (lt_in B3 A3 (lt_at f4 Q5.symm)))))]
  rw [if_neg f4]
  have Q4 := eq_in (eq_of_not g4 f4) Q5
  show computusref01_cmp.l0 (k + 5) [a0, a1, a2, a3, a4, a5] [b0, b1, b2, b3, b4, b5] 3 = _
  rw [cmp_step (k + 4) (i := 3) (u := a3) (v := b3) (by decide) (by decide) rfl rfl rfl rfl]
  by_cases g3 : a3 < b3
  · rw [if_pos g3, va, vb, sgn_lt (lt_in A0 B0 (lt_in A1 B1 (lt_in A2 B2 (lt_at g3 Q4))))]
  rw [if_neg g3]
  by_cases f3 : a3 > b3
  · rw [if_pos f3, va, vb, sgn_gt (lt_in B0 A0 (lt_in B1 A1 (lt_in B2 A2 (lt_at f3 Q4.symm))))]
  rw [if_neg f3]
  have Q3 := eq_in (eq_of_not g3 f3) Q4
  show computusref01_cmp.l0 (k + 4) [a0, a1, a2, a3, a4, a5] [b0, b1, b2, b3, b4, b5] 2 = _
  rw [cmp_step (k + 3) (i := 2) (u := a2) (v := b2) (by decide) (by decide) rfl rfl rfl rfl]
  by_cases g2 : a2 < b2
  · rw [if_pos g2, va, vb, sgn_lt (lt_in A0 B0 (lt_in A1 B1 (lt_at g2 Q3)))]
  rw [if_neg g2]
  by_cases f2 : a2 > b2
  · rw [if_pos f2, va, vb, sgn_gt (lt_in B0 A0 (lt_in B1 A1 (lt_at f2 Q3.symm)))]
  rw [if_neg f2]
  have Q2 := eq_in (eq_of_not g2 f2) Q3
  show computusref01_cmp.l0 (k + 3) [a0, a1, a2, a3, a4, a5] [b0, b1, b2, b3, b4, b5] 1 = _
  rw [cmp_step (k + 2) (i := 1) (u := a1) (v := b1) (by decide) (by decide) rfl rfl rfl rfl]
  by_cases g1 : a1 < b1
  · rw [if_pos g1, va, vb, sgn_lt (lt_in A0 B0 (lt_at g1 Q2))]
  rw [if_neg g1]
  by_cases f1 : a1 > b1
  · rw [if_pos f1, va, vb, sgn_gt (lt_in B0 A0 (lt_at f1 Q2.symm))]
  rw [if_neg f1]
  have Q1 := eq_in (eq_of_not g1 f1) Q2
  show computusref01_cmp.l0 (k + 2) [a0, a1, a2, a3, a4, a5] [b0, b1, b2, b3, b4, b5] 0 = _
  rw [cmp_step (k + 1) (i := 0) (u := a0) (v := b0) (by decide) (by decide) rfl rfl rfl rfl]
  by_cases g0 : a0 < b0
  · rw [if_pos g0, va, vb, sgn_lt (lt_at g0 Q1)]
  rw [if_neg g0]
  by_cases f0 : a0 > b0
  · rw [if_pos f0, va, vb, sgn_gt (lt_at f0 Q1.symm)]
  rw [if_neg f0]
  have Q0 := eq_in (eq_of_not g0 f0) Q1
  show computusref01_cmp.l0 (k + 1) [a0, a1, a2, a3, a4, a5] [b0, b1, b2, b3, b4, b5] (-1) = _
  simp only [computusref01_cmp.l0]
  rw [if_neg (by decide), va, vb, sgn_eq Q0]
theorem cmp_ev {a b : Int} (ha : 0 ≤ a) (ha1 : a < 6277101735386680763835789423207666416102355444464034512896) (hb : 0 ≤ b) (hb1 : b < 6277101735386680763835789423207666416102355444464034512896) : Ev (fun k => computusref01_cmp.f k (dig a) (dig b)) (sgn a b) :=
  Ev.of (computusref01_cmp.mono (dig a) (dig b)) (cmp_dig 0 ha ha1 hb hb1)
theorem zero_ev {a : Int} (ha : 0 ≤ a) (ha1 : a < 6277101735386680763835789423207666416102355444464034512896) : Ev (fun k => computusref01_zero.f k (dig a)) (decide (a = 0)) := by
  unfold computusref01_zero.f
  simp only [if_pos (show (6 : Int) ≤ 35184372088832 by omega), ← dig_zero]
  refine Ev.bind (cmp_ev ha ha1 (by omega) (by omega)) ?_
  have e : (sgn a 0 == 0) = decide (a = 0) := by
    unfold sgn
    by_cases h : a = 0
    · subst h; rfl
    · rw [if_neg (by omega), if_pos (by omega), decide_eq_false h]; rfl
  rw [e]; exact Ev.now _
end Go.Proofs.YthkmckmfgglafaaGreat.Civ
namespace Go.Proofs.YthkmckmfgglafaaGreat.Civ
set_option linter.unusedVariables false
set_option linter.unusedSimpArgs false
open Go.RowKit Go.Proofs.YthkmckmfgglafaaGreatW.PrintWords Go.Proofs.YthkmckmfgglafaaGreatW.PrintLast Go.Proofs.YthkmckmfgglafaaGreatW.PrintMore Go.Proofs.YthkmckmfgglafaaGreat.P
instance (x : Int) : Decidable (I64 x) := inferInstanceAs (Decidable (_ ∧ _))
/-- A number, if it is one of 64 bits; else out of range. -/
def out (z : Int) : Int × Int := if I64 z then (z, 0) else (0, 10)
theorem out_in {z : Int} (h : I64 z) : out z = (z, 0) := if_pos h
theorem out_no {z : Int} (h : ¬ I64 z) : out z = (0, 10) := if_neg h
theorem add_eq (a b : Int) (ha : I64 a) (hb : I64 b) : num_Add.f a b = some (out (a + b)) := by
  unfold num_Add.f out
  by_cases h : I64 (a + b)
  · rw [if_pos h, w64_of h, if_neg]
    simp only [bne_iff_ne, ne_eq, Decidable.not_not]
    apply decide_eq_decide.2; omega
  · rw [if_neg h, if_pos]
    unfold I64 at *
    have hw : wrap64 (a + b) = a + b - 18446744073709551616 ∨ wrap64 (a + b) = a + b + 18446744073709551616 := by unfold wrap64; omega
    simp only [bne_iff_ne, ne_eq, decide_eq_decide]
    unfold wrap64 at *
    omega
/-- Without a sign. -/
def ab (a : Int) : Int := if a < 0 then -a else a
theorem ab_bd {a : Int} (h : I64 a) : 0 ≤ ab a ∧ ab a ≤ 9223372036854775808 := by unfold ab; unfold I64 at h; split <;> omega
theorem ab_pos {a : Int} (h : 0 ≤ a) : ab a = a := by unfold ab; rw [if_neg (by omega)]
theorem ab_neg {a : Int} (h : a < 0) : ab a = -a := by unfold ab; rw [if_pos h]
theorem size_eq (a : Int) (ha : I64 a) : num_size.f a = some (ab a) := by
  unfold num_size.f ab
  unfold I64 at ha
  by_cases h : a < 0
  · rw [if_pos h, if_pos h, u64m, u64m]; congr 1; omega
  · rw [if_neg h, if_neg h, u64m]; congr 1; omega
theorem mul_bd {x y a b : Int} (hx : 0 ≤ x) (hxa : x ≤ a) (hy : 0 ≤ y) (hyb : y ≤ b) : 0 ≤ x * y ∧ x * y ≤ a * b :=
  ⟨Int.mul_nonneg hx hy, Int.mul_le_mul hxa hyb hy (by omega)⟩
theorem mul64_eq (x y : Int) (hx : 0 ≤ x) (hx1 : x ≤ 18446744073709551615) (hy : 0 ≤ y) (hy1 : y ≤ 18446744073709551615) :
    bits_Mul64.f x y = some (x * y / 18446744073709551616, x * y % 18446744073709551616) := by
  unfold bits_Mul64.f
  rw [and32 hx hx1, and32 hy hy1]
  have ex : x = x / 4294967296 * 4294967296 + x % 4294967296 := by omega
  have ey : y = y / 4294967296 * 4294967296 + y % 4294967296 := by omega
  have bx1 : 0 ≤ x / 4294967296 ∧ x / 4294967296 ≤ 4294967295 := by omega
  have bx0 : 0 ≤ x % 4294967296 ∧ x % 4294967296 ≤ 4294967295 := by omega
  have by1 : 0 ≤ y / 4294967296 ∧ y / 4294967296 ≤ 4294967295 := by omega
  have by0 : 0 ≤ y % 4294967296 ∧ y % 4294967296 ≤ 4294967295 := by omega
  have p11 := mul_bd bx1.1 bx1.2 by1.1 by1.2
  have p10 := mul_bd bx1.1 bx1.2 by0.1 by0.2
  have p01 := mul_bd bx0.1 bx0.2 by1.1 by1.2
  have p00 := mul_bd bx0.1 bx0.2 by0.1 by0.2
  have e : x * y = x / 4294967296 * (y / 4294967296) * 18446744073709551616 + (x / 4294967296 * (y % 4294967296) + x % 4294967296 * (y / 4294967296)) * 4294967296 + x % 4294967296 * (y % 4294967296) := by
    conv => lhs; rw [ex, ey]
    simp only [Int.mul_add, Int.add_mul]
    have c1 : x / 4294967296 * 4294967296 * (y / 4294967296 * 4294967296) = x / 4294967296 * (y / 4294967296) * 18446744073709551616 := by
      rw [Int.mul_assoc, Int.mul_left_comm 4294967296, ← Int.mul_assoc (x / 4294967296)]; rfl
    have c2 : x % 4294967296 * (y / 4294967296 * 4294967296) = x % 4294967296 * (y / 4294967296) * 4294967296 := by rw [Int.mul_assoc]
    have c3 : x / 4294967296 * 4294967296 * (y % 4294967296) = x / 4294967296 * (y % 4294967296) * 4294967296 := by rw [Int.mul_assoc, Int.mul_comm 4294967296, ← Int.mul_assoc]
    rw [c1, c2, c3]; omega
  generalize x * y = P at *
  generalize x / 4294967296 * (y / 4294967296) = P11 at *
  generalize x / 4294967296 * (y % 4294967296) = P10 at *
  generalize x % 4294967296 * (y / 4294967296) = P01 at *
  generalize x % 4294967296 * (y % 4294967296) = P00 at *
  clear ex ey bx1 bx0 by1 by0 hx hx1 hy hy1
  rw [u64w (x := P11) (by omega) (by omega), u64w (x := P10) (by omega) (by omega), u64w (x := P00) (by omega) (by omega), u64w (x := P01) (by omega) (by omega)]
  have t : 0 ≤ P00 / 4294967296 ∧ P00 / 4294967296 ≤ 4294967295 := by omega
  rw [u64w (x := P10 + P00 / 4294967296) (by omega) (by omega), and32 (by omega) (by omega)]
  obtain ⟨T, hT⟩ : ∃ T, P10 + P00 / 4294967296 = T := ⟨_, rfl⟩
  rw [hT]
  rw [u64w (x := T % 4294967296 + P01) (by omega) (by omega), u64w (x := P11 + T / 4294967296) (by omega) (by omega), u64w (x := P11 + T / 4294967296 + (T % 4294967296 + P01) / 4294967296) (by omega) (by omega), u64m]
  congr 2
  omega
theorem product_eq (a b : Int) (ha : I64 a) (hb : I64 b) : num_product.f a b = some (ab a * ab b / 18446744073709551616, ab a * ab b % 18446744073709551616) := by
  have h1 := ab_bd ha
  have h2 := ab_bd hb
  unfold num_product.f
  rw [size_eq a ha, size_eq b hb]
  simp only [Option.bind_some]
  rw [mul64_eq _ _ h1.1 (by omega) h2.1 (by omega)]
  rfl
theorem signed_eq (k : Nat) (neg : Bool) (hi lo : Int) (h0 : 0 ≤ hi) (h1 : 0 ≤ lo) (h2 : lo ≤ 18446744073709551615) :
    num_signed.f (k + 1) neg hi lo = some (out (if neg = true then -(hi * 18446744073709551616 + lo) else hi * 18446744073709551616 + lo)) := by
  unfold num_signed.f
  by_cases hh : hi = 0
  · subst hh
    rw [if_pos rfl]
    cases neg with
    | true =>
      simp only [if_true, num_signed.j0]
      by_cases g : lo ≤ 9223372036854775808
      · rw [decide_eq_true g, if_pos rfl, out_in (by unfold I64; omega), u64m]
        congr 2; unfold wrap64; omega
      · rw [decide_eq_false g, if_neg (by simp), out_no (by unfold I64; omega)]
    | false =>
      simp only [num_signed.j0, Bool.false_eq_true, if_false]
      by_cases g : lo > 9223372036854775807
      · rw [if_pos g, out_no (by unfold I64; omega)]
      · rw [if_neg g, out_in (by unfold I64; omega), w64 (by omega) (by omega)]
        congr 2; omega
  · rw [if_neg hh]
    cases neg with
    | true => rw [if_pos rfl, out_no (by unfold I64; omega)]
    | false => rw [if_neg (by simp), out_no (by unfold I64; omega)]
/-- The sign of a product. -/
theorem mul_sign (a b : Int) : (if ((decide (a < 0)) != (decide (b < 0))) = true then -(ab a * ab b) else ab a * ab b) = a * b := by
  by_cases h1 : a < 0
  · by_cases h2 : b < 0
    · rw [decide_eq_true h1, decide_eq_true h2, if_neg (by simp), ab_neg h1, ab_neg h2, Int.neg_mul_neg]
    · rw [decide_eq_true h1, decide_eq_false h2, if_pos (by simp), ab_neg h1, ab_pos (by omega), Int.neg_mul, Int.neg_neg]
  · by_cases h2 : b < 0
    · rw [decide_eq_false h1, decide_eq_true h2, if_pos (by simp), ab_pos (by omega), ab_neg h2, Int.mul_neg, Int.neg_neg]
    · rw [decide_eq_false h1, decide_eq_false h2, if_neg (by simp), ab_pos (by omega), ab_pos (by omega)]
theorem mul_eq (k : Nat) (a b : Int) (ha : I64 a) (hb : I64 b) : num_Mul.f (k + 1) a b = some (out (a * b)) := by
  have h1 := ab_bd ha
  have h2 := ab_bd hb
  have h3 := mul_bd h1.1 h1.2 h2.1 h2.2
  unfold num_Mul.f
  rw [product_eq a b ha hb]
  simp only [Option.bind_some]
  rw [signed_eq _ _ _ _ (by omega) (by omega) (by omega)]
  simp only [Option.bind_some]
  rw [show ab a * ab b / 18446744073709551616 * 18446744073709551616 + ab a * ab b % 18446744073709551616 = ab a * ab b by omega, mul_sign]
/-- How often, the greatest whole number that is not above; what is left. -/
def fl (a b : Int) : Int := if b < 0 then (-a) / (-b) else a / b
def md (a b : Int) : Int := if b < 0 then -((-a) % (-b)) else a % b
theorem fl_md (a b : Int) : a = b * fl a b + md a b := by
  unfold fl md
  split
  · have := Int.mul_ediv_add_emod (-a) (-b)
    rw [Int.neg_mul] at this
    omega
  · have := Int.mul_ediv_add_emod a b
    omega
theorem fl_unique {a b q r : Int} (h : a = b * q + r) (hr : (0 ≤ r ∧ r < b) ∨ (b < r ∧ r ≤ 0)) : fl a b = q ∧ md a b = r := by
  unfold fl md
  by_cases hb : b < 0
  · rw [if_pos hb, if_pos hb]
    have := (Int.ediv_emod_unique (a := -a) (b := -b) (r := -r) (q := q) (by omega)).2 ⟨by rw [Int.neg_mul]; omega, by omega, by omega⟩
    omega
  · rw [if_neg hb, if_neg hb]
    have := (Int.ediv_emod_unique (a := a) (b := b) (r := r) (q := q) (by omega)).2 ⟨by omega, by omega, by omega⟩
    omega
theorem div64_small (k : Nat) (lo y : Int) (h0 : 0 < y) (h1 : 0 ≤ lo) (h2 : lo ≤ 18446744073709551615) : bits_Div64.f k 0 lo y = some (lo / y, lo % y) := by
  unfold bits_Div64.f
  rw [if_neg (by omega), if_neg (by omega), if_pos rfl, td_pos h1, tm_pos h1]
  have := Int.ediv_le_self y h1
  have := Int.ediv_nonneg h1 (b := y) (by omega)
  rw [u64w (by omega) (by omega)]
/-- Of a product without signs, and how often a number without a sign is there: with the signs. -/
theorem fl_signs {a b c P D : Int} (hP : ab a * ab b = P) (hD : ab c = D) (hc : c ≠ 0) :
    fl (a * b) c = if (((decide (a < 0)) != (decide (b < 0))) != (decide (c < 0))) = true then (if P % D = 0 then -(P / D) else -(P / D) - 1) else P / D := by
  have hs := mul_sign a b
  rw [hP] at hs
  have hD0 : 0 < D := by rw [← hD]; unfold ab; split <;> omega
  have e := Int.mul_ediv_add_emod P D
  have r0 := Int.emod_nonneg P (Int.ne_of_gt hD0)
  have r1 := Int.emod_lt_of_pos P hD0
  have hP0 : ((decide (a < 0)) != (decide (b < 0))) = true → a * b = -P := fun h => by rw [if_pos h] at hs; exact hs.symm
  have hP1 : ((decide (a < 0)) != (decide (b < 0))) = false → a * b = P := fun h => by rw [if_neg (by rw [h]; simp)] at hs; exact hs.symm
  generalize ((decide (a < 0)) != (decide (b < 0))) = s at *
  generalize P / D = q at *
  generalize P % D = r at *
  have em : D * (q + 1) = D * q + D := by rw [Int.mul_add, Int.mul_one]
  by_cases h3 : c < 0
  · rw [ab_neg h3] at hD
    rw [decide_eq_true h3]
    cases s with
    | true =>
      rw [if_neg (by simp), hP0 rfl]
      exact (fl_unique (r := -r) (by rw [← e, show c = -D by omega, Int.neg_mul]; omega) (by omega)).1
    | false =>
      rw [if_pos (by simp), hP1 rfl]
      by_cases hr : r = 0
      · rw [if_pos hr]
        exact (fl_unique (r := 0) (by rw [← e, show c = -D by omega, Int.neg_mul_neg]; omega) (by omega)).1
      · rw [if_neg hr]
        exact (fl_unique (r := r - D) (by rw [← e, show c = -D by omega, show -q - 1 = -(q + 1) by omega, Int.neg_mul_neg]; omega) (by omega)).1
  · rw [ab_pos (by omega)] at hD
    subst hD
    rw [decide_eq_false h3]
    cases s with
    | true =>
      rw [if_pos (by simp), hP0 rfl]
      by_cases hr : r = 0
      · rw [if_pos hr]
        exact (fl_unique (r := 0) (by rw [← e, Int.mul_neg]; omega) (by omega)).1
      · rw [if_neg hr]
        exact (fl_unique (r := c - r) (by rw [← e, show -q - 1 = -(q + 1) by omega, Int.mul_neg]; omega) (by omega)).1
    | false =>
      rw [if_neg (by simp), hP1 rfl]
      exact (fl_unique (r := r) (by omega) (by omega)).1
theorem add64_eq (x : Int) (h0 : 0 ≤ x) : bits_Add64.f x 1 0 = some ((x + 1) % 18446744073709551616, (x + 1) / 18446744073709551616) := by
  unfold bits_Add64.f
  rw [if_pos h0, if_pos (by omega), if_pos (by omega), if_pos (by omega), Int.add_zero]
/-- One number times another one, and how often a third one is there: if the division of 128 bits by 64 is as it is. -/
theorem scale_of (k : Nat) (a b c : Int) (ha : I64 a) (hb : I64 b) (hc : I64 c) (h0 : c ≠ 0)
    (hd : ab a * ab b / 18446744073709551616 < ab c → bits_Div64.f (k + 1) (ab a * ab b / 18446744073709551616) (ab a * ab b % 18446744073709551616) (ab c) = some (ab a * ab b / ab c, ab a * ab b % ab c)) :
    num_Scale.f (k + 1) a b c = some (out (fl (a * b) c)) := by
  have h1 := ab_bd ha
  have h2 := ab_bd hb
  have h3 := ab_bd hc
  have h4 := mul_bd h1.1 h1.2 h2.1 h2.2
  have hD0 : 0 < ab c := by unfold ab; split <;> omega
  rw [fl_signs rfl rfl h0]
  unfold num_Scale.f
  rw [if_neg h0, product_eq a b ha hb, size_eq c hc]
  simp only [Option.bind_some]
  generalize hP : ab a * ab b = P at *
  generalize hD : ab c = D at *
  have e := Int.mul_ediv_add_emod P D
  have r0 := Int.emod_nonneg P (Int.ne_of_gt hD0)
  have r1 := Int.emod_lt_of_pos P hD0
  have q0 : 0 ≤ P / D := Int.ediv_nonneg h4.1 (by omega)
  by_cases hl : P / 18446744073709551616 ≥ D
  · rw [if_pos hl]
    have hq : 18446744073709551616 ≤ P / D := by
      rw [Int.le_ediv_iff_mul_le hD0]; omega
    split
    · split
      · rw [out_no (by unfold I64; omega)]
      · rw [out_no (by unfold I64; omega)]
    · rw [out_no (by unfold I64; omega)]
  · rw [if_neg hl, hd (by omega)]
    simp only [Option.bind_some]
    have hq : P / D < 18446744073709551616 := Int.ediv_lt_of_lt_mul hD0 (by omega)
    generalize P / D = q at *
    generalize P % D = r at *
    by_cases hs : (((decide (a < 0)) != (decide (b < 0))) != (decide (c < 0))) = true
    · rw [if_pos hs, if_pos hs, hs]
      by_cases hr : r = 0
      · rw [if_pos hr, if_pos hr, signed_eq _ _ _ _ (by omega) (by omega) (by omega), if_pos rfl]
        simp only [Option.bind_some]
        rw [show (0 : Int) * 18446744073709551616 + q = q by omega]
      · rw [if_neg hr, if_neg hr, add64_eq _ q0]
        simp only [Option.bind_some]
        rw [signed_eq _ _ _ _ (by omega) (by omega) (by omega), if_pos rfl]
        simp only [Option.bind_some]
        rw [show (q + 1) / 18446744073709551616 * 18446744073709551616 + (q + 1) % 18446744073709551616 = q + 1 by omega, show -(q + 1) = -q - 1 by omega]
    · rw [if_neg hs, if_neg hs, signed_eq _ _ _ _ (by omega) (by omega) (by omega), if_neg hs]
      simp only [Option.bind_some]
      rw [show (0 : Int) * 18446744073709551616 + q = q by omega]
theorem div_eq (k : Nat) (a c : Int) (ha : I64 a) (hc : I64 c) (h0 : c ≠ 0) : num_Div.f (k + 1) a c = some (out (fl a c)) := by
  have h1 := ab_bd ha
  have h3 := ab_bd hc
  have hD0 : 0 < ab c := by unfold ab; split <;> omega
  unfold num_Div.f
  rw [scale_of k a 1 c ha (by unfold I64; omega) hc h0 (fun _ => ?_)]
  · simp only [Option.bind_some, Int.mul_one]
  · rw [ab_pos (a := 1) (by omega), Int.mul_one, show ab a / 18446744073709551616 = 0 by omega, show ab a % 18446744073709551616 = ab a by omega]
    exact div64_small _ _ _ hD0 h1.1 (by omega)
theorem mod_eq (a b : Int) (ha : I64 a) (hb : I64 b) (h0 : b ≠ 0) : num_Mod.f a b = some (md a b, 0) := by
  unfold num_Mod.f
  rw [if_neg h0]
  by_cases h1 : b = -1
  · rw [if_pos h1]
    have : md a b = 0 := by unfold md; rw [if_pos (by omega), h1]; simp
    rw [this]
  rw [if_neg h1]
  unfold I64 at hb
  by_cases hs : b < 0
  · -- the remainder of a cut division has the sign of a
    have e : Int.tmod a b = Int.tmod a (-b) := by rw [Int.tmod_neg]
    have c := cut_floor a (b := -b) (by omega)
    have g1 := Int.emod_nonneg a (b := -b) (by omega)
    have g2 := Int.emod_lt_of_pos a (b := -b) (by omega)
    have e2 : md a b = if a % (-b) = 0 then 0 else a % (-b) + b := by
      have d := Int.mul_ediv_add_emod a (-b)
      split
      · rename_i hz
        exact (fl_unique (q := -(a / -b)) (by rw [Int.mul_neg, ← Int.neg_mul]; omega) (by omega)).2
      · exact (fl_unique (q := -(a / -b) - 1) (by rw [show -(a / -b) - 1 = -((a / -b) + 1) by omega, Int.mul_neg, ← Int.neg_mul, Int.mul_add]; omega) (by omega)).2
    rw [e, e2]
    by_cases hn : Int.tmod a (-b) < 0
    · obtain ⟨c1, c2, c3⟩ := c.1 hn
      rw [if_neg (by omega), if_neg (show ¬ a % (-b) = 0 by omega), decide_eq_true hn, decide_eq_true hs, if_neg (by simp)]
      congr 2; omega
    · obtain ⟨c1, c2⟩ := c.2 hn
      rw [c2]
      by_cases hz : a % (-b) = 0
      · rw [if_pos hz, if_pos hz, hz]
      · rw [if_neg hz, if_neg hz, decide_eq_false (show ¬ a % (-b) < 0 by omega), decide_eq_true hs, if_pos (by simp), w64 (by omega) (by omega)]
  · have c := cut_floor a (b := b) (by omega)
    have g1 := Int.emod_nonneg a (b := b) (by omega)
    have g2 := Int.emod_lt_of_pos a (b := b) (by omega)
    have e2 : md a b = a % b := by unfold md; rw [if_neg hs]
    rw [e2]
    by_cases hn : Int.tmod a b < 0
    · obtain ⟨c1, c2, c3⟩ := c.1 hn
      rw [if_neg (by omega), decide_eq_true hn, decide_eq_false hs, if_pos (by simp), w64 (by omega) (by omega)]
      congr 2; omega
    · obtain ⟨c1, c2⟩ := c.2 hn
      rw [c2]
      by_cases hz : a % b = 0
      · rw [if_pos hz]
      · rw [if_neg hz, decide_eq_false (show ¬ a % b < 0 by omega), decide_eq_false hs, if_neg (by simp)]
theorem fl_pos {a b : Int} (h : 0 < b) : fl a b = a / b := by unfold fl; rw [if_neg (by omega)]
theorem md_pos {a b : Int} (h : 0 < b) : md a b = a % b := by unfold md; rw [if_neg (by omega)]
theorem fl_bd {a b : Int} (ha : I64 a) (hb : b ≠ 0) : I64 (fl a b) ∨ (b = -1 ∧ a = -9223372036854775808) := by
  unfold fl
  split
  · rename_i h
    by_cases h1 : b = -1
    · subst h1
      show I64 ((-a) / 1) ∨ _
      rw [Int.ediv_one]
      unfold I64 at *
      omega
    · left
      unfold I64 at *
      have e := Int.mul_ediv_add_emod (-a) (-b)
      have g1 := Int.emod_nonneg (-a) (b := -b) (by omega)
      have g2 := Int.emod_lt_of_pos (-a) (b := -b) (by omega)
      constructor
      · rw [Int.le_ediv_iff_mul_le (by omega)]
        have : -9223372036854775808 * -b ≤ -9223372036854775808 * 1 := Int.mul_le_mul_of_nonpos_left (by omega) (by omega)
        omega
      · rcases Int.lt_or_le (-a) 0 with g | g
        · have : (-a) / (-b) < 0 := Int.ediv_lt_of_lt_mul (by omega) (by omega)
          omega
        · have h3 : (-a) / (-b) ≤ (-a) / 2 := by
            rw [Int.le_ediv_iff_mul_le (by omega)]
            have h5 : 0 ≤ (-a) / (-b) := Int.ediv_nonneg g (by omega)
            have h6 : (-a) / (-b) * 2 ≤ (-a) / (-b) * -b := Int.mul_le_mul_of_nonneg_left (by omega) h5
            rw [Int.mul_comm (-b)] at e
            omega
          omega
  · left
    have := ediv_i64 (b := b) ha (by omega)
    exact this
theorem split_eq (k : Nat) (us : Int) (h : I64 us) : num_Split.f (k + 1) us = some (us / 86400000000, us % 86400000000) := by
  unfold num_Split.f
  have hc : I64 86400000000 := by unfold I64; omega
  rw [div_eq k us 86400000000 h hc (by omega), mod_eq us 86400000000 h hc (by omega), fl_pos (by omega), md_pos (by omega), out_in (ediv_i64 h (by omega))]
  rfl
end Go.Proofs.YthkmckmfgglafaaGreat.Civ
namespace Go.Proofs.YthkmckmfgglafaaGreat.Civ
set_option linter.unusedVariables false
set_option linter.unusedSimpArgs false
open Go.RowKit Go.Proofs.YthkmckmfgglafaaGreatW.PrintWords Go.Proofs.YthkmckmfgglafaaGreatW.PrintLast Go.Proofs.YthkmckmfgglafaaGreatW.PrintMore Go.Proofs.YthkmckmfgglafaaGreat.P
/-- A wide number's sign and parts. -/
def ng (x : Int) : Bool := decide (x < 0)
def dg (x : Int) : List Int := dig (ab x)
theorem ng_true {x : Int} (h : x < 0) : ng x = true := decide_eq_true h
theorem ng_false {x : Int} (h : ¬ x < 0) : ng x = false := decide_eq_false h
def Wide (x : Int) : Prop := -6277101735386680763835789423207666416102355444464034512896 < x ∧ x < 6277101735386680763835789423207666416102355444464034512896
theorem ab_wide {x : Int} (h : Wide x) : 0 ≤ ab x ∧ ab x < 6277101735386680763835789423207666416102355444464034512896 := by unfold Wide at h; unfold ab; split <;> omega
theorem ab_zero {x : Int} : ab x = 0 ↔ x = 0 := by unfold ab; split <;> omega
theorem wide_i64 {x : Int} (h : I64 x) : Wide x := by unfold I64 at h; unfold Wide; omega
theorem of_list (u v : Int) (h0 : 0 ≤ u) (h1 : u ≤ 18446744073709551615) : ((List.replicate 6 0).set (0 : Int).toNat (u % 4294967296)).set (1 : Int).toNat (u / 4294967296) = dig u := by
  show [u % 4294967296, u / 4294967296, 0, 0, 0, 0] = dig u
  rw [dig_of (a := u) (a0 := u % 4294967296) (a1 := u / 4294967296) (a2 := 0) (a3 := 0) (a4 := 0) (a5 := 0) (by omega) (by omega)]
theorem of_eq (a : Int) (h : I64 a) : computusref01_Of.f a = some (ng a, dg a) := by
  have h' := h
  unfold I64 at h'
  unfold computusref01_Of.f
  by_cases g : a < 0
  · have e : IntKind.u64.wrap (-IntKind.u64.wrap a) = -a := by rw [u64m, u64m]; omega
    simp only [if_pos g, if_pos (show (6 : Int) ≤ 35184372088832 by omega), Option.bind_some, e, List.length_replicate]
    rw [and32 (by omega) (by omega), if_pos (by decide), if_pos (by decide), of_list (-a) 0 (by omega) (by omega)]
    unfold dg; rw [ab_neg g, ng_true g]; rfl
  · have e : IntKind.u64.wrap a = a := by rw [u64m]; omega
    simp only [if_neg g, if_pos (show (6 : Int) ≤ 35184372088832 by omega), Option.bind_some, e, List.length_replicate]
    rw [and32 (by omega) (by omega), if_pos (by decide), if_pos (by decide), of_list a 0 (by omega) (by omega)]
    unfold dg; rw [ab_pos (by omega), ng_false g]; rfl
theorem minus_ev {x : Int} (h : Wide x) : Ev (fun k => computusref01_Minus.f k (ng x) (dg x)) (ng (-x), dg (-x)) := by
  have hb := ab_wide h
  have e : dg (-x) = dg x := by unfold dg ab; congr 1; split <;> split <;> omega
  unfold computusref01_Minus.f
  rw [e]
  by_cases g : x < 0
  · rw [ng_true g, ng_false (by omega)]
    exact Ev.now _
  · rw [ng_false g]
    simp only [Bool.false_eq_true, if_false]
    refine Ev.bind (zero_ev hb.1 hb.2) ?_
    have : (!decide (ab x = 0)) = ng (-x) := by
      by_cases z : x = 0
      · subst z; rfl
      · rw [decide_eq_false (fun f => z (ab_zero.1 f)), ng_true (by omega)]; rfl
    rw [this]; exact Ev.now _
theorem plus_ev {x y : Int} (hx : Wide x) (hy : Wide y) (hs : Wide (x + y)) : Ev (fun k => computusref01_Plus.f k (ng x) (dg x) (ng y) (dg y)) (ng (x + y), dg (x + y)) := by
  have bx := ab_wide hx
  have by_ := ab_wide hy
  have bs := ab_wide hs
  unfold computusref01_Plus.f
  have cmpE := cmp_ev bx.1 bx.2 by_.1 by_.2
  by_cases g : ng x = ng y
  · simp only [beq_iff_eq, if_pos g]
    have e1 : ab x + ab y = ab (x + y) := by
      unfold ng at g
      have := decide_eq_decide.1 g
      unfold ab; split <;> split <;> split <;> omega
    have e2 : ng x = ng (x + y) := by
      unfold ng at g ⊢
      have := decide_eq_decide.1 g
      apply decide_eq_decide.2; omega
    refine Ev.bind (add_ev bx.1 by_.1 (by omega)) ?_
    rw [e1, e2]
    exact Ev.now _
  · simp only [beq_iff_eq, if_neg g]
    have g' : ¬ (x < 0 ↔ y < 0) := fun f => g (by unfold ng; exact decide_eq_decide.2 f)
    refine Ev.bind cmpE ?_
    by_cases hc : ab y ≤ ab x
    · have e1 : ab x - ab y = ab (x + y) := by revert hc; unfold ab; split <;> split <;> split <;> omega
      have c0 : sgn (ab x) (ab y) ≥ 0 := by unfold sgn; split <;> omega
      simp only [if_pos c0]
      by_cases hn : x < 0
      · simp only [ng_true hn, if_true]
        refine Ev.bind cmpE (Ev.bind (less_ev bx.2 by_.1 hc) ?_)
        have : decide (sgn (ab x) (ab y) > 0) = ng (x + y) := by
          unfold ng
          apply decide_eq_decide.2
          unfold sgn
          revert hc; unfold ab; rw [if_pos hn, if_neg (by omega)]
          intro hc
          rw [if_neg (by omega)]
          split <;> omega
        rw [this, e1]
        exact Ev.now _
      · simp only [ng_false hn, Bool.false_eq_true, if_false]
        refine Ev.bind (less_ev bx.2 by_.1 hc) ?_
        have : ¬ x + y < 0 := by revert hc; unfold ab; rw [if_neg hn, if_pos (by omega)]; omega
        rw [e1, ng_false this]
        exact Ev.now _
    · have e1 : ab y - ab x = ab (x + y) := by revert hc; unfold ab; split <;> split <;> split <;> omega
      have c0 : ¬ sgn (ab x) (ab y) ≥ 0 := by unfold sgn; rw [if_pos (by omega)]; omega
      simp only [if_neg c0]
      refine Ev.bind (less_ev by_.2 bx.1 (by omega)) ?_
      have : ng y = ng (x + y) := by
        unfold ng
        apply decide_eq_decide.2
        revert hc; unfold ab; split <;> split <;> omega
      rw [e1, this]
      exact Ev.now _
theorem small_step (k : Nat) {n : Bool} {x : List Int} {i v : Int} (h0 : 2 ≤ i) (h6 : i < 6) (hl : x.length = 6) (hv : rd x i = v) :
    computusref01_Small.l0 (k + 1) i n x = if v = 0 then computusref01_Small.l0 k (i + 1) n x else some (0, 10) := by
  simp only [computusref01_Small.l0]
  rw [if_pos h6, if_pos (by omega), hl, if_pos (by omega), hv, w64 (by omega) (by omega)]
theorem small_end (k : Nat) (x u v : Int) (hu : 0 ≤ u ∧ u < 4294967296) (hv : 0 ≤ v ∧ v < 4294967296) (e : ab x = u + 4294967296 * v) (l : List Int) (hl : l.length = 6) (h0 : rd l 0 = u) (h1 : rd l 1 = v) :
    computusref01_Small.l0 (k + 2) 6 (ng x) l = some (out x) := by
  have eo : Go.bits .or .u64 (IntKind.u64.wrap (v * 4294967296)) u = ab x := by
    rw [u64w (by omega) (by omega), orj 32 (by omega) (by omega) (by omega) (by omega) hu.1 (by omega)]; omega
  simp only [computusref01_Small.l0]
  rw [if_neg (by omega), hl, if_pos (by decide), if_pos (by decide), h0, h1, eo]
  have hb : 0 ≤ ab x ∧ ab x ≤ 18446744073709551615 := by omega
  clear eo e h0 h1 hl hu hv
  by_cases g : x < 0
  · rw [ng_true g, if_pos rfl]
    rw [ab_neg g] at hb ⊢
    by_cases q : -x ≤ 9223372036854775808
    · rw [decide_eq_true q, out_in (by unfold I64; omega)]
      simp only [computusref01_Small.j1, if_true]
      rw [u64m]; congr 2; unfold wrap64; omega
    · rw [decide_eq_false q, out_no (by unfold I64; omega)]
      simp only [computusref01_Small.j1]
      rfl
  · rw [ng_false g]
    rw [ab_pos (by omega)] at hb ⊢
    simp only [Bool.false_eq_true, if_false, computusref01_Small.j1]
    by_cases q : x ≥ 9223372036854775808
    · rw [if_pos q, out_no (by unfold I64; omega)]
    · rw [if_neg q, out_in (by unfold I64; omega), w64 (by omega) (by omega)]
theorem small_ev {x : Int} (h : Wide x) : Ev (fun k => computusref01_Small.f k (ng x) (dg x)) (out x) := by
  have hb := ab_wide h
  obtain ⟨a0, a1, a2, a3, a4, a5, ea, ⟨A0, A1, A2, A3, A4, A5⟩, va⟩ := dig_form hb.1 hb.2
  refine Ev.of (computusref01_Small.mono (ng x) (dg x)) (k := 6) ?_
  unfold computusref01_Small.f dg
  rw [ea]
  have no : 18446744073709551616 ≤ ab x → out x = (0, 10) := fun g => out_no (by unfold ab at g; unfold I64; split at g <;> omega)
  rw [small_step 5 (i := 2) (v := a2) (by omega) (by omega) rfl rfl]
  by_cases g2 : a2 = 0
  · rw [if_pos g2, small_step 4 (i := 2 + 1) (v := a3) (by omega) (by omega) rfl rfl]
    by_cases g3 : a3 = 0
    · rw [if_pos g3, small_step 3 (i := 2 + 1 + 1) (v := a4) (by omega) (by omega) rfl rfl]
      by_cases g4 : a4 = 0
      · rw [if_pos g4, small_step 2 (i := 2 + 1 + 1 + 1) (v := a5) (by omega) (by omega) rfl rfl]
        by_cases g5 : a5 = 0
        · rw [if_pos g5]
          exact small_end 0 x a0 a1 A0 A1 (by rw [va, g2, g3, g4, g5]; omega) _ rfl rfl rfl
        · rw [if_neg g5, no (by rw [va, g2, g3, g4]; omega)]
      · rw [if_neg g4, no (by rw [va, g2, g3]; omega)]
    · rw [if_neg g3, no (by rw [va, g2]; omega)]
  · rw [if_neg g2, no (by rw [va]; omega)]
theorem row_next (k : Nat) {x5 row L1 L2 : List Int} {s1 s2 : Bool} {c i j u v : Int} (hi : 0 ≤ i) (hj : 0 ≤ j) (hi2 : i < 2) (hj3 : j < 3) (l1 : L1.length = 6) (l2 : L2.length = 6) (lr : row.length = 6) (hc : 0 ≤ c ∧ c < 4294967296)
    (hu : rd L1 i = u) (hv : rd L2 j = v) (ub : 0 ≤ u ∧ u < 4294967296) (vb : 0 ≤ v ∧ v < 4294967296) :
    ∃ d c', computusref01_Times.l1 (k + 1) x5 i row c j s1 L1 s2 L2 = computusref01_Times.l1 k x5 i (row.set (i + j).toNat d) c' (j + 1) s1 L1 s2 L2 ∧ (0 ≤ d ∧ d < 4294967296) ∧ (0 ≤ c' ∧ c' < 4294967296) ∧ c + u * v = d + 4294967296 * c' := by
  have hp := mul_bd ub.1 (show u ≤ 4294967295 by omega) vb.1 (show v ≤ 4294967295 by omega)
  refine ⟨(c + u * v) % 4294967296, (c + u * v) / 4294967296, ?_, part_bd _, by omega, part_eq _⟩
  simp only [computusref01_Times.l1]
  rw [w64 (x := i + j) (by omega) (by omega), if_pos hj3, if_pos hi, l1, if_pos (by omega), if_pos hj, l2, if_pos (by omega), if_pos (by omega), lr, if_pos (by omega), hu, hv, u64w (x := u * v) (by omega) (by omega), u64w (x := c + u * v) (by omega) (by omega), and32 (by omega) (by omega), w64 (by omega) (by omega)]
theorem row_end (x5 : List Int) (i : Int) (r : List Int) (c : Int) (s1 : Bool) (L1 : List Int) (s2 : Bool) (L2 : List Int) {t : List Int} {res : Bool × List Int} (hi : 0 ≤ i ∧ i < 5) (ha : Ev (fun k => computusref01_add.f k x5 r) t)
    (h : Ev (fun k => computusref01_Times.l0 k t (i + 1) s1 L1 s2 L2) res) : Ev (fun k => computusref01_Times.l1 k x5 i r c 3 s1 L1 s2 L2) res := by
  refine Ev.step (f := fun k => (computusref01_add.f k x5 r).bind fun t => computusref01_Times.l0 k t (wrap64 (i + 1)) s1 L1 s2 L2) (fun k => ?_) (Ev.bind ha ?_)
  · simp only [computusref01_Times.l1]
    rw [if_neg (by omega)]
  · rw [w64 (by omega) (by omega)]; exact h
theorem two_parts {x : Int} (h0 : 0 ≤ x) (h1 : x ≤ 18446744073709551615) : ∃ x0 x1, dig x = [x0, x1, 0, 0, 0, 0] ∧ (0 ≤ x0 ∧ x0 < 4294967296) ∧ (0 ≤ x1 ∧ x1 < 4294967296) ∧ x = x0 + 4294967296 * x1 := by
  refine ⟨x % 4294967296, x / 4294967296, ?_, part_bd _, by omega, part_eq _⟩
  exact dig_of (by omega) (by omega)
theorem row0 {x0 y0 y1 d0 d1 d2 c1 c2 c3 : Int} (E0 : 0 + x0 * y0 = d0 + 4294967296 * c1) (E1 : c1 + x0 * y1 = d1 + 4294967296 * c2) (E2 : c2 + x0 * 0 = d2 + 4294967296 * c3) (C2 : 0 ≤ c2 ∧ c2 < 4294967296) (D2 : 0 ≤ d2 ∧ d2 < 4294967296) :
    x0 * (y0 + 4294967296 * y1) = d0 + 4294967296 * (d1 + 4294967296 * d2) := by
  have : x0 * (y0 + 4294967296 * y1) = x0 * y0 + 4294967296 * (x0 * y1) := by rw [Int.mul_add, Int.mul_left_comm]
  omega
theorem times_ev {x y : Int} (hx : -18446744073709551615 ≤ x ∧ x ≤ 18446744073709551615) (hy : -18446744073709551615 ≤ y ∧ y ≤ 18446744073709551615) :
    Ev (fun k => computusref01_Times.f k (ng x) (dg x) (ng y) (dg y)) (ng (x * y), dg (x * y)) := by
  have bx : 0 ≤ ab x ∧ ab x ≤ 18446744073709551615 := by unfold ab; split <;> omega
  have by_ : 0 ≤ ab y ∧ ab y ≤ 18446744073709551615 := by unfold ab; split <;> omega
  have hm := mul_sign x y
  have eab : ab (x * y) = ab x * ab y := by
    have hp := mul_bd bx.1 bx.2 by_.1 by_.2
    have neg_ab : ∀ P : Int, 0 ≤ P → ab (-P) = P := fun P h => by unfold ab; split <;> omega
    rw [← hm]; split
    · exact neg_ab _ hp.1
    · rw [ab_pos hp.1]
  have esg : (ng x != ng y) = true → ¬ ab x * ab y = 0 → x * y < 0 := by
    intro g z
    have hp := mul_bd bx.1 bx.2 by_.1 by_.2
    have g' : ((decide (x < 0)) != (decide (y < 0))) = true := g
    rw [← hm, if_pos g']; omega
  have esg2 : (ng x != ng y) = false → ¬ x * y < 0 := by
    intro g
    have hp := mul_bd bx.1 bx.2 by_.1 by_.2
    rw [← hm, if_neg (by unfold ng at g; rw [g]; simp)]; omega
  obtain ⟨x0, x1, ex, X0, X1, vx⟩ := two_parts bx.1 bx.2
  obtain ⟨y0, y1, ey, Y0, Y1, vy⟩ := two_parts by_.1 by_.2
  have hprod : ab x * ab y = x0 * ab y + 4294967296 * (x1 * ab y) := by
    conv => lhs; rw [vx]
    rw [Int.add_mul, Int.mul_assoc]
  have b0 := mul_bd X0.1 (show x0 ≤ 4294967295 by omega) by_.1 by_.2
  have b1 := mul_bd X1.1 (show x1 ≤ 4294967295 by omega) by_.1 by_.2
  have fin : Ev (fun k => computusref01_Times.l0 k (dig (ab x * ab y)) 2 (ng x) (dg x) (ng y) (dg y)) (ng (x * y), dg (x * y)) := by
    unfold dg
    rw [eab]
    by_cases g : (ng x != ng y) = true
    · refine Ev.step (f := fun k => (computusref01_zero.f k (dig (ab x * ab y))).bind fun t => some (!t, dig (ab x * ab y))) (fun k => ?_) (Ev.bind (zero_ev (by omega) (by omega)) ?_)
      · simp only [computusref01_Times.l0]
        rw [if_neg (by omega), if_pos g]
      · by_cases z : ab x * ab y = 0
        · have : x * y = 0 := by rw [← ab_zero, eab]; exact z
          rw [decide_eq_true z, this]; exact Ev.now _
        · rw [decide_eq_false z, ng_true (esg g z)]; exact Ev.now _
    · have g' : (ng x != ng y) = false := by simpa using g
      refine Ev.at1 fun k => ?_
      simp only [computusref01_Times.l0]
      rw [if_neg (by omega), if_neg g, ng_false (esg2 g')]
  have Z : (0 : Int) ≤ 0 ∧ (0 : Int) < 4294967296 := by decide
  have r1 : Ev (fun k => computusref01_Times.l1 k (dig (x0 * ab y)) 1 [0, 0, 0, 0, 0, 0] 0 0 (ng x) (dg x) (ng y) (dg y)) (ng (x * y), dg (x * y)) := by
    obtain ⟨K, hK⟩ : Ev (fun k => computusref01_Times.l1 k (dig (x0 * ab y)) 1 (dig (4294967296 * (x1 * ab y))) 0 3 (ng x) (dg x) (ng y) (dg y)) (ng (x * y), dg (x * y)) := by
      refine row_end _ _ _ _ _ _ _ _ (by omega) (add_ev b0.1 (by omega) (by omega)) ?_
      rw [← hprod]; exact fin
    refine ⟨K + 3, fun k hk => ?_⟩
    obtain ⟨m, rfl⟩ : ∃ m, k = m + 3 := ⟨k - 3, by omega⟩
    obtain ⟨d0, c1, e0, D0, C1, E0⟩ := row_next (m + 2) (x5 := dig (x0 * ab y)) (row := [0, 0, 0, 0, 0, 0]) (L1 := dg x) (L2 := dg y) (s1 := ng x) (s2 := ng y) (c := 0) (i := 1) (j := 0) (u := x1) (v := y0) (by decide) (by decide) (by decide) (by decide) rfl rfl rfl Z (by unfold dg; rw [ex]; rfl) (by unfold dg; rw [ey]; rfl) X1 Y0
    refine e0.trans ?_
    show computusref01_Times.l1 (m + 2) (dig (x0 * ab y)) 1 [0, d0, 0, 0, 0, 0] c1 1 (ng x) (dg x) (ng y) (dg y) = _
    obtain ⟨d1, c2, e1, D1, C2, E1⟩ := row_next (m + 1) (x5 := dig (x0 * ab y)) (row := [0, d0, 0, 0, 0, 0]) (L1 := dg x) (L2 := dg y) (s1 := ng x) (s2 := ng y) (c := c1) (i := 1) (j := 1) (u := x1) (v := y1) (by decide) (by decide) (by decide) (by decide) rfl rfl rfl C1 (by unfold dg; rw [ex]; rfl) (by unfold dg; rw [ey]; rfl) X1 Y1
    refine e1.trans ?_
    show computusref01_Times.l1 (m + 1) (dig (x0 * ab y)) 1 [0, d0, d1, 0, 0, 0] c2 2 (ng x) (dg x) (ng y) (dg y) = _
    obtain ⟨d2, c3, e2, D2, C3, E2⟩ := row_next m (x5 := dig (x0 * ab y)) (row := [0, d0, d1, 0, 0, 0]) (L1 := dg x) (L2 := dg y) (s1 := ng x) (s2 := ng y) (c := c2) (i := 1) (j := 2) (u := x1) (v := 0) (by decide) (by decide) (by decide) (by decide) rfl rfl rfl C2 (by unfold dg; rw [ex]; rfl) (by unfold dg; rw [ey]; rfl) X1 Z
    refine e2.trans ?_
    have hr := row0 E0 E1 E2 C2 D2
    rw [← vy] at hr
    have hc3 : c3 = 0 := by omega
    subst hc3
    show computusref01_Times.l1 m (dig (x0 * ab y)) 1 [0, d0, d1, d2, 0, 0] 0 3 (ng x) (dg x) (ng y) (dg y) = _
    rw [← dig_of (a := 4294967296 * (x1 * ab y)) (a0 := 0) (a1 := d0) (a2 := d1) (a3 := d2) (a4 := 0) (a5 := 0) ⟨Z, D0, D1, D2, Z, Z⟩ (by rw [hr]; omega)]
    exact hK m (by omega)
  have r0 : Ev (fun k => computusref01_Times.l1 k (dig 0) 0 [0, 0, 0, 0, 0, 0] 0 0 (ng x) (dg x) (ng y) (dg y)) (ng (x * y), dg (x * y)) := by
    obtain ⟨K, hK⟩ : Ev (fun k => computusref01_Times.l1 k (dig 0) 0 (dig (x0 * ab y)) 0 3 (ng x) (dg x) (ng y) (dg y)) (ng (x * y), dg (x * y)) := by
      refine row_end _ _ _ _ _ _ _ _ (by omega) (add_ev (by omega) b0.1 (by omega)) ?_
      rw [Int.zero_add]
      refine Ev.step (f := fun k => computusref01_Times.l1 k (dig (x0 * ab y)) 1 [0, 0, 0, 0, 0, 0] 0 0 (ng x) (dg x) (ng y) (dg y)) (fun k => ?_) r1
      simp only [computusref01_Times.l0]
      rw [if_pos (by omega), if_pos (by omega)]
      rfl
    refine ⟨K + 3, fun k hk => ?_⟩
    obtain ⟨m, rfl⟩ : ∃ m, k = m + 3 := ⟨k - 3, by omega⟩
    obtain ⟨d0, c1, e0, D0, C1, E0⟩ := row_next (m + 2) (x5 := dig 0) (row := [0, 0, 0, 0, 0, 0]) (L1 := dg x) (L2 := dg y) (s1 := ng x) (s2 := ng y) (c := 0) (i := 0) (j := 0) (u := x0) (v := y0) (by decide) (by decide) (by decide) (by decide) rfl rfl rfl Z (by unfold dg; rw [ex]; rfl) (by unfold dg; rw [ey]; rfl) X0 Y0
    refine e0.trans ?_
    show computusref01_Times.l1 (m + 2) (dig 0) 0 [d0, 0, 0, 0, 0, 0] c1 1 (ng x) (dg x) (ng y) (dg y) = _
    obtain ⟨d1, c2, e1, D1, C2, E1⟩ := row_next (m + 1) (x5 := dig 0) (row := [d0, 0, 0, 0, 0, 0]) (L1 := dg x) (L2 := dg y) (s1 := ng x) (s2 := ng y) (c := c1) (i := 0) (j := 1) (u := x0) (v := y1) (by decide) (by decide) (by decide) (by decide) rfl rfl rfl C1 (by unfold dg; rw [ex]; rfl) (by unfold dg; rw [ey]; rfl) X0 Y1
    refine e1.trans ?_
    show computusref01_Times.l1 (m + 1) (dig 0) 0 [d0, d1, 0, 0, 0, 0] c2 2 (ng x) (dg x) (ng y) (dg y) = _
    obtain ⟨d2, c3, e2, D2, C3, E2⟩ := row_next m (x5 := dig 0) (row := [d0, d1, 0, 0, 0, 0]) (L1 := dg x) (L2 := dg y) (s1 := ng x) (s2 := ng y) (c := c2) (i := 0) (j := 2) (u := x0) (v := 0) (by decide) (by decide) (by decide) (by decide) rfl rfl rfl C2 (by unfold dg; rw [ex]; rfl) (by unfold dg; rw [ey]; rfl) X0 Z
    refine e2.trans ?_
    have hr := row0 E0 E1 E2 C2 D2
    rw [← vy] at hr
    have hc3 : c3 = 0 := by omega
    subst hc3
    show computusref01_Times.l1 m (dig 0) 0 [d0, d1, d2, 0, 0, 0] 0 3 (ng x) (dg x) (ng y) (dg y) = _
    rw [← dig_of (a := x0 * ab y) (a0 := d0) (a1 := d1) (a2 := d2) (a3 := 0) (a4 := 0) (a5 := 0) ⟨D0, D1, D2, Z, Z, Z⟩ (by rw [hr]; omega)]
    exact hK m (by omega)
  unfold computusref01_Times.f
  refine Ev.pos (by decide) ?_
  refine Ev.step (f := fun k => computusref01_Times.l1 k (dig 0) 0 [0, 0, 0, 0, 0, 0] 0 0 (ng x) (dg x) (ng y) (dg y)) (fun k => ?_) r0
  simp only [computusref01_Times.l0]
  rw [if_pos (by omega), if_pos (by omega)]
  rfl
end Go.Proofs.YthkmckmfgglafaaGreat.Civ
namespace Go.Proofs.YthkmckmfgglafaaGreat.Civ
set_option linter.unusedVariables false
set_option linter.unusedSimpArgs false
open Go.RowKit Go.Proofs.YthkmckmfgglafaaGreatW.PrintWords Go.Proofs.YthkmckmfgglafaaGreatW.PrintLast Go.Proofs.YthkmckmfgglafaaGreatW.PrintMore Go.Proofs.YthkmckmfgglafaaGreat.P
def Half (x : Int) : Prop := -3138550867693340381917894711603833208051177722232017256448 ≤ x ∧ x ≤ 3138550867693340381917894711603833208051177722232017256448
theorem ab_half {x : Int} (h : Half x) : 0 ≤ ab x ∧ ab x ≤ 3138550867693340381917894711603833208051177722232017256448 := by unfold Half at h; unfold ab; split <;> omega
theorem half_i64 {x : Int} (h : I64 x) : Half x := by unfold I64 at h; unfold Half; omega
theorem half_wide {x : Int} (h : Half x) : Wide x := by unfold Half at h; unfold Wide; omega
theorem wide_neg {a : Int} (ha : Wide a) : Wide (-a) := by unfold Wide at *; omega
theorem i64_word {a : Int} (ha : I64 a) : -18446744073709551615 ≤ a ∧ a ≤ 18446744073709551615 := by unfold I64 at ha; omega
end Go.Proofs.YthkmckmfgglafaaGreat.Civ
namespace Go.Proofs.YthkmckmfgglafaaGreat.Civ
set_option linter.unusedVariables false
set_option linter.unusedSimpArgs false
open Go.RowKit Go.Proofs.YthkmckmfgglafaaGreatW.PrintWords Go.Proofs.YthkmckmfgglafaaGreatW.PrintLast Go.Proofs.YthkmckmfgglafaaGreatW.PrintMore Go.Proofs.YthkmckmfgglafaaGreat.P
theorem pow_pos' (s : Nat) : (0 : Int) < 2 ^ s := by exact_mod_cast Nat.two_pow_pos s
theorem pow_split (s : Nat) (h : s < 32) : (4294967296 : Int) = 2 ^ s * (2 * 2 ^ (31 - s)) := by
  have e : (4294967296 : Int) = 2 ^ 32 := rfl
  rw [e, ← Int.pow_succ', ← Int.pow_add]
  congr 1; omega
/-- A bit of a part is a bit of the number. -/
theorem part_bit (x : Int) (s : Nat) (h : s < 32) : x % 4294967296 / 2 ^ s % 2 = x / 2 ^ s % 2 := by
  have hp := pow_pos' s
  have e : x = x % 4294967296 + 2 ^ s * (2 * 2 ^ (31 - s) * (x / 4294967296)) := by
    rw [← Int.mul_assoc, ← pow_split s h]; omega
  have e2 : x / 2 ^ s = x % 4294967296 / 2 ^ s + 2 * 2 ^ (31 - s) * (x / 4294967296) := by
    conv => lhs; rw [e]
    exact Int.add_mul_ediv_left _ _ (Int.ne_of_gt hp)
  rw [e2, Int.mul_assoc]; omega
theorem low_div (a : Int) (L : Int) (hL : 0 < L) (s : Nat) : a / L / 2 ^ s = a / (L * 2 ^ s) := Int.ediv_ediv_of_nonneg (by omega)
theorem rd_bit (a : Int) (n : Nat) (h : n < 192) : ∃ u, rd (dig a) ((n : Int) / 32) = u ∧ (0 ≤ u ∧ u < 4294967296) ∧ u / 2 ^ (n % 32) % 2 = a / 2 ^ n % 2 := by
  have hs : n % 32 < 32 := Nat.mod_lt _ (by omega)
  have hn : n = 32 * (n / 32) + n % 32 := by omega
  have hq : n / 32 = 0 ∨ n / 32 = 1 ∨ n / 32 = 2 ∨ n / 32 = 3 ∨ n / 32 = 4 ∨ n / 32 = 5 := by omega
  have hi : (n : Int) / 32 = ((n / 32 : Nat) : Int) := by omega
  rw [hi]
  generalize n % 32 = s at *
  generalize n / 32 = q at *
  subst hn
  rw [Int.pow_add]
  rcases hq with e | e | e | e | e | e <;> subst e
  · exact ⟨a % 4294967296, rfl, part_bd _, by rw [part_bit _ _ hs]; simp⟩
  · exact ⟨a / 4294967296 % 4294967296, rfl, part_bd _, by rw [part_bit _ _ hs, low_div _ _ (by omega)]; rfl⟩
  · exact ⟨a / 4294967296 / 4294967296 % 4294967296, rfl, part_bd _, by rw [part_bit _ _ hs, show a / 4294967296 / 4294967296 = a / 18446744073709551616 by omega, low_div _ _ (by omega)]; rfl⟩
  · exact ⟨a / 4294967296 / 4294967296 / 4294967296 % 4294967296, rfl, part_bd _, by rw [part_bit _ _ hs, show a / 4294967296 / 4294967296 / 4294967296 = a / 79228162514264337593543950336 by omega, low_div _ _ (by omega)]; rfl⟩
  · exact ⟨a / 4294967296 / 4294967296 / 4294967296 / 4294967296 % 4294967296, rfl, part_bd _, by rw [part_bit _ _ hs, show a / 4294967296 / 4294967296 / 4294967296 / 4294967296 = a / 340282366920938463463374607431768211456 by omega, low_div _ _ (by omega)]; rfl⟩
  · exact ⟨a / 4294967296 / 4294967296 / 4294967296 / 4294967296 / 4294967296 % 4294967296, rfl, part_bd _, by rw [part_bit _ _ hs, show a / 4294967296 / 4294967296 / 4294967296 / 4294967296 / 4294967296 = a / 1461501637330902918203684832716283019655932542976 by omega, low_div _ _ (by omega)]; rfl⟩
/-- A bit that is not set is set. -/
theorem set_bit (N : Int) (n : Nat) (h : n < 192) (h0 : 0 ≤ N) (h1 : N < 6277101735386680763835789423207666416102355444464034512896) (hm : N % 2 ^ (n + 1) = 0) :
    ∃ u, rd (dig N) ((n : Int) / 32) = u ∧ (0 ≤ u ∧ u < 4294967296) ∧ u % 2 ^ (n % 32 + 1) = 0 ∧ (dig N).set ((n : Int) / 32).toNat (u + 2 ^ (n % 32)) = dig (N + 2 ^ n) := by
  have hs : n % 32 < 32 := Nat.mod_lt _ (by omega)
  have hn : n = 32 * (n / 32) + n % 32 := by omega
  have hq : n / 32 = 0 ∨ n / 32 = 1 ∨ n / 32 = 2 ∨ n / 32 = 3 ∨ n / 32 = 4 ∨ n / 32 = 5 := by omega
  have hi : (n : Int) / 32 = ((n / 32 : Nat) : Int) := by omega
  rw [hi]
  generalize n % 32 = s at *
  generalize n / 32 = q at *
  subst hn
  have hp := pow_pos' s
  have hP := pow_split s hs
  have hsucc : (2 : Int) ^ (s + 1) = 2 * 2 ^ s := Int.pow_succ' _ _
  have hs1 : (4294967296 : Int) = 2 ^ (s + 1) * 2 ^ (31 - s) := by rw [hsucc, Int.mul_comm 2, Int.mul_assoc]; exact hP
  obtain ⟨w, hw⟩ : ∃ w, N = 2 ^ (32 * q + s + 1) * w := ⟨_, (Int.mul_ediv_cancel' (Int.dvd_of_emod_eq_zero hm)).symm⟩
  obtain ⟨a0, a1, a2, a3, a4, a5, ea, ⟨A0, A1, A2, A3, A4, A5⟩, va⟩ := dig_form h0 h1
  have up : ∀ u : Int, 0 ≤ u → u < 4294967296 → u % 2 ^ (s + 1) = 0 → u + 2 ^ s < 4294967296 := by
    intro u u0 u1 um
    obtain ⟨v, hv⟩ : ∃ v, u = 2 ^ (s + 1) * v := ⟨_, (Int.mul_ediv_cancel' (Int.dvd_of_emod_eq_zero um)).symm⟩
    have hlt : v < 2 ^ (31 - s) := by
      rcases Int.lt_or_le v (2 ^ (31 - s)) with g | g
      · exact g
      · have := Int.mul_le_mul_of_nonneg_left g (show (0 : Int) ≤ 2 ^ (s + 1) by omega)
        omega
    have := Int.mul_le_mul_of_nonneg_left (show v + 1 ≤ 2 ^ (31 - s) by omega) (show (0 : Int) ≤ 2 ^ (s + 1) by omega)
    rw [Int.mul_add] at this
    omega
  have modz : ∀ (u rest z : Int), u + 4294967296 * rest = 2 ^ (s + 1) * z → u % 2 ^ (s + 1) = 0 := by
    intro u rest z e
    have : u = 2 ^ (s + 1) * (z - 2 ^ (31 - s) * rest) := by rw [Int.mul_sub, ← Int.mul_assoc, ← hs1]; omega
    rw [this]; exact Int.mul_emod_right _ _
  rcases hq with e | e | e | e | e | e <;> subst e
  · have hpw : (2 : Int) ^ (32 * 0 + s + 1) = 1 * 2 ^ (s + 1) := by rw [Nat.add_assoc, Int.pow_add]; rfl
    have hpw2 : (2 : Int) ^ (32 * 0 + s) = 1 * 2 ^ s := by rw [Int.pow_add]; rfl
    have hN : a0 + 4294967296 * (a1 + 4294967296 * (a2 + 4294967296 * (a3 + 4294967296 * (a4 + 4294967296 * (a5))))) = 2 ^ (s + 1) * w := by
      rw [hpw, Int.mul_assoc] at hw
      generalize 2 ^ (s + 1) * w = W at *
      omega
    have hz := modz _ _ _ hN
    refine ⟨a0, by rw [ea]; rfl, A0, hz, ?_⟩
    rw [ea, hpw2]
    show [a0 + 2 ^ s, a1, a2, a3, a4, a5] = _
    exact (dig_of (a := N + 1 * 2 ^ s) ⟨⟨by omega, up a0 A0.1 A0.2 hz⟩, A1, A2, A3, A4, A5⟩ (by rw [va]; omega)).symm
  · have hpw : (2 : Int) ^ (32 * 1 + s + 1) = 4294967296 * 2 ^ (s + 1) := by rw [Nat.add_assoc, Int.pow_add]; rfl
    have hpw2 : (2 : Int) ^ (32 * 1 + s) = 4294967296 * 2 ^ s := by rw [Int.pow_add]; rfl
    have hN : a1 + 4294967296 * (a2 + 4294967296 * (a3 + 4294967296 * (a4 + 4294967296 * (a5)))) = 2 ^ (s + 1) * w := by
      rw [hpw, Int.mul_assoc] at hw
      generalize 2 ^ (s + 1) * w = W at *
      omega
    have hz := modz _ _ _ hN
    refine ⟨a1, by rw [ea]; rfl, A1, hz, ?_⟩
    rw [ea, hpw2]
    show [a0, a1 + 2 ^ s, a2, a3, a4, a5] = _
    exact (dig_of (a := N + 4294967296 * 2 ^ s) ⟨A0, ⟨by omega, up a1 A1.1 A1.2 hz⟩, A2, A3, A4, A5⟩ (by rw [va]; omega)).symm
  · have hpw : (2 : Int) ^ (32 * 2 + s + 1) = 18446744073709551616 * 2 ^ (s + 1) := by rw [Nat.add_assoc, Int.pow_add]; rfl
    have hpw2 : (2 : Int) ^ (32 * 2 + s) = 18446744073709551616 * 2 ^ s := by rw [Int.pow_add]; rfl
    have hN : a2 + 4294967296 * (a3 + 4294967296 * (a4 + 4294967296 * (a5))) = 2 ^ (s + 1) * w := by
      rw [hpw, Int.mul_assoc] at hw
      generalize 2 ^ (s + 1) * w = W at *
      omega
    have hz := modz _ _ _ hN
    refine ⟨a2, by rw [ea]; rfl, A2, hz, ?_⟩
    rw [ea, hpw2]
    show [a0, a1, a2 + 2 ^ s, a3, a4, a5] = _
    exact (dig_of (a := N + 18446744073709551616 * 2 ^ s) ⟨A0, A1, ⟨by omega, up a2 A2.1 A2.2 hz⟩, A3, A4, A5⟩ (by rw [va]; omega)).symm
  · have hpw : (2 : Int) ^ (32 * 3 + s + 1) = 79228162514264337593543950336 * 2 ^ (s + 1) := by rw [Nat.add_assoc, Int.pow_add]; rfl
    have hpw2 : (2 : Int) ^ (32 * 3 + s) = 79228162514264337593543950336 * 2 ^ s := by rw [Int.pow_add]; rfl
    have hN : a3 + 4294967296 * (a4 + 4294967296 * (a5)) = 2 ^ (s + 1) * w := by
      rw [hpw, Int.mul_assoc] at hw
      generalize 2 ^ (s + 1) * w = W at *
      omega
    have hz := modz _ _ _ hN
    refine ⟨a3, by rw [ea]; rfl, A3, hz, ?_⟩
    rw [ea, hpw2]
    show [a0, a1, a2, a3 + 2 ^ s, a4, a5] = _
    exact (dig_of (a := N + 79228162514264337593543950336 * 2 ^ s) ⟨A0, A1, A2, ⟨by omega, up a3 A3.1 A3.2 hz⟩, A4, A5⟩ (by rw [va]; omega)).symm
  · have hpw : (2 : Int) ^ (32 * 4 + s + 1) = 340282366920938463463374607431768211456 * 2 ^ (s + 1) := by rw [Nat.add_assoc, Int.pow_add]; rfl
    have hpw2 : (2 : Int) ^ (32 * 4 + s) = 340282366920938463463374607431768211456 * 2 ^ s := by rw [Int.pow_add]; rfl
    have hN : a4 + 4294967296 * (a5) = 2 ^ (s + 1) * w := by
      rw [hpw, Int.mul_assoc] at hw
      generalize 2 ^ (s + 1) * w = W at *
      omega
    have hz := modz _ _ _ hN
    refine ⟨a4, by rw [ea]; rfl, A4, hz, ?_⟩
    rw [ea, hpw2]
    show [a0, a1, a2, a3, a4 + 2 ^ s, a5] = _
    exact (dig_of (a := N + 340282366920938463463374607431768211456 * 2 ^ s) ⟨A0, A1, A2, A3, ⟨by omega, up a4 A4.1 A4.2 hz⟩, A5⟩ (by rw [va]; omega)).symm
  · have hpw : (2 : Int) ^ (32 * 5 + s + 1) = 1461501637330902918203684832716283019655932542976 * 2 ^ (s + 1) := by rw [Nat.add_assoc, Int.pow_add]; rfl
    have hpw2 : (2 : Int) ^ (32 * 5 + s) = 1461501637330902918203684832716283019655932542976 * 2 ^ s := by rw [Int.pow_add]; rfl
    have hN : a5 + 4294967296 * (0) = 2 ^ (s + 1) * w := by
      rw [hpw, Int.mul_assoc] at hw
      generalize 2 ^ (s + 1) * w = W at *
      omega
    have hz := modz _ _ _ hN
    refine ⟨a5, by rw [ea]; rfl, A5, hz, ?_⟩
    rw [ea, hpw2]
    show [a0, a1, a2, a3, a4, a5 + 2 ^ s] = _
    exact (dig_of (a := N + 1461501637330902918203684832716283019655932542976 * 2 ^ s) ⟨A0, A1, A2, A3, A4, ⟨by omega, up a5 A5.1 A5.2 hz⟩⟩ (by rw [va]; omega)).symm
/-- One bit of the division. -/
theorem divide_loop (a b : Int) (ha : 0 ≤ a) (ha1 : a < 6277101735386680763835789423207666416102355444464034512896) (hb : 0 < b) (hb1 : b ≤ 3138550867693340381917894711603833208051177722232017256448) (j : Nat) : ∀ Q R : Int, j ≤ 192 → 0 ≤ Q → 0 ≤ R → R < b → a / 2 ^ j = b * Q + R →
    Ev (fun k => computusref01_divide.l0 k (dig a) (dig b) (dig (Q * 2 ^ j)) (dig R) ((j : Int) - 1)) (dig (a / b), dig (a % b)) := by
  induction j with
  | zero =>
    intro Q R hj hQ hR hRb he
    rw [Int.pow_zero, Int.ediv_one] at he
    have h := (Int.ediv_emod_unique (a := a) (b := b) (r := R) (q := Q) hb).2 ⟨by omega, hR, hRb⟩
    refine Ev.at1 fun k => ?_
    simp only [computusref01_divide.l0]
    rw [if_neg (by omega), h.1, h.2, Int.pow_zero, Int.mul_one]
  | succ n ih =>
    intro Q R hj hQ hR hRb he
    have hpn := pow_pos' n
    have hp1 := pow_pos' (n + 1)
    have hs1 : (2 : Int) ^ (n + 1) = 2 ^ n * 2 := Int.pow_succ _ _
    -- the next bit
    have hbit : a / 2 ^ n = 2 * (a / 2 ^ (n + 1)) + a / 2 ^ n % 2 := by
      have e : a / 2 ^ (n + 1) = a / 2 ^ n / 2 := by rw [hs1, Int.ediv_ediv_of_nonneg (by omega)]
      rw [e]; omega
    obtain ⟨u, hu, ub, hub⟩ := rd_bit a n (by omega)
    obtain ⟨c, hc⟩ : ∃ c, a / 2 ^ n % 2 = c := ⟨_, rfl⟩
    have hc01 : 0 ≤ c ∧ c ≤ 1 := by omega
    rw [hc] at hbit hub
    -- the bits of the quotient
    have hQ1 : Q * 2 ^ (n + 1) < 6277101735386680763835789423207666416102355444464034512896 := by
      have e := Int.mul_ediv_add_emod a (2 ^ (n + 1))
      have g := Int.emod_nonneg a (Int.ne_of_gt hp1)
      have h1 : Q ≤ b * Q := by
        have := Int.mul_le_mul_of_nonneg_right (show (1 : Int) ≤ b by omega) hQ
        omega
      have h2 : Q ≤ a / 2 ^ (n + 1) := by omega
      have h3 := Int.mul_le_mul_of_nonneg_left h2 (show (0 : Int) ≤ 2 ^ (n + 1) by omega)
      rw [Int.mul_comm Q]; omega
    have hQ0 : 0 ≤ Q * 2 ^ (n + 1) := Int.mul_nonneg hQ (by omega)
    obtain ⟨v, hv, vb, vm, vset⟩ := set_bit (Q * 2 ^ (n + 1)) n (by omega) hQ0 hQ1 (Int.mul_emod_left _ _)
    have hidx : wrap64 (Int.tdiv ((n + 1 : Nat) - 1 : Int) 32) = (n : Int) / 32 := by
      rw [show ((n + 1 : Nat) - 1 : Int) = (n : Int) by omega, td_pos (by omega), w64 (by omega) (by omega)]
    have hsh : IntKind.u64.wrap (Int.tmod ((n + 1 : Nat) - 1 : Int) 32) = ((n % 32 : Nat) : Int) := by
      rw [show ((n + 1 : Nat) - 1 : Int) = (n : Int) by omega, tm_pos (by omega), u64w (by omega) (by omega)]; omega
    have hn32 : n % 32 < 32 := Nat.mod_lt _ (by omega)
    have hshr : ∀ x : Int, shr .u64 x ((n % 32 : Nat) : Int) = x / 2 ^ (n % 32) := fun x => by
      unfold shr; rw [Int.toNat_natCast, Nat.min_eq_left (by show n % 32 ≤ 64; omega)]
    have hshl : shl .u64 1 ((n % 32 : Nat) : Int) = 2 ^ (n % 32) := by
      unfold shl; rw [Int.toNat_natCast, Nat.min_eq_left (by show n % 32 ≤ 64; omega), Int.one_mul, u64w]
      · have := pow_pos' (n % 32); omega
      · have : (2 : Int) ^ (n % 32) ≤ 2 ^ 31 := by exact_mod_cast Nat.pow_le_pow_right (by decide) (show n % 32 ≤ 31 by omega)
        omega
    have hand : Go.bits .and .u64 (u / 2 ^ (n % 32)) 1 = c := by
      have h1 := Int.ediv_le_self (2 ^ (n % 32)) ub.1
      have h0 := Int.ediv_nonneg ub.1 (b := 2 ^ (n % 32)) (by have := pow_pos' (n % 32); omega)
      rw [show (1 : Int) = 2 ^ 1 - 1 from rfl, bits_mask .u64 64 (by decide) wraps_u64 1 (by decide) _ h0 (by omega), ← hub]; rfl
    -- the rest, twice, and the bit
    have hRr : 2 * R + c < 6277101735386680763835789423207666416102355444464034512896 := by omega
    have hset0 : ∀ l, l = dig (R + R) → l.set (0 : Int).toNat (Go.bits .or .u64 (rd l 0) c) = dig (2 * R + c) := by
      intro l hl
      subst hl
      obtain ⟨a0, a1, a2, a3, a4, a5, ea, ⟨A0, A1, A2, A3, A4, A5⟩, va⟩ := dig_form (a := R + R) (by omega) (by omega)
      rw [ea]
      show [Go.bits .or .u64 a0 c, a1, a2, a3, a4, a5] = _
      rw [orj 1 (by omega) A0.1 (by show a0 % 2 = 0; omega) (by omega) hc01.1 (by show c < 2; omega)]
      exact (dig_of (a := 2 * R + c) ⟨by omega, A1, A2, A3, A4, A5⟩ (by omega)).symm
    refine Ev.succ ?_
    simp only [computusref01_divide.l0]
    refine Ev.pos (by omega) ?_
    refine Ev.bind (add_ev hR hR (by omega)) ?_
    rw [hidx, hsh]
    refine Ev.pos (by rw [dig_length]; decide) ?_
    refine Ev.pos (by omega) ?_
    refine Ev.pos (by rw [dig_length]; omega) ?_
    refine Ev.pos (by omega) ?_
    rw [hu, hshr, hand, hset0 _ rfl, hshl, hv]
    rw [orj (n % 32 + 1) (by omega) vb.1 vm (by omega) (by have := pow_pos' (n % 32); omega) (by have := pow_pos' (n % 32); rw [Int.pow_succ]; omega), vset, show (((n + 1 : Nat) : Int) - 1 - 1) = (n : Int) - 1 by omega, w64 (x := (n : Int) - 1) (by omega) (by omega)]
    refine Ev.bind0 rfl ?_
    refine Ev.bind (cmp_ev (by omega) hRr (by omega) (by omega)) ?_
    by_cases hg : b ≤ 2 * R + c
    · have : sgn (2 * R + c) b ≥ 0 := by unfold sgn; split <;> omega
      simp only [if_pos this]
      refine Ev.bind (less_ev hRr (by omega) hg) ?_
      refine Ev.pos (by rw [dig_length]; omega) ?_
      have e : Q * 2 ^ (n + 1) + 2 ^ n = (2 * Q + 1) * 2 ^ n := by rw [hs1, Int.add_mul, Int.one_mul, Int.mul_comm 2 Q, Int.mul_assoc, Int.mul_comm 2]
      rw [e]
      refine ih (2 * Q + 1) (2 * R + c - b) (by omega) (by omega) (by omega) (by omega) ?_
      have em : b * (2 * Q + 1) = 2 * (b * Q) + b := by rw [Int.mul_add, Int.mul_one, Int.mul_left_comm]
      rw [hbit, he, em]; omega
    · have : ¬ sgn (2 * R + c) b ≥ 0 := by unfold sgn; rw [if_pos (by omega)]; omega
      simp only [if_neg this]
      have e : Q * 2 ^ (n + 1) = (2 * Q) * 2 ^ n := by rw [hs1, Int.mul_comm 2 Q, Int.mul_assoc, Int.mul_comm 2]
      rw [e]
      refine ih (2 * Q) (2 * R + c) (by omega) (by omega) (by omega) (by omega) ?_
      have em : b * (2 * Q) = 2 * (b * Q) := Int.mul_left_comm _ _ _
      rw [hbit, he, em]; omega
end Go.Proofs.YthkmckmfgglafaaGreat.Civ
namespace Go.Proofs.YthkmckmfgglafaaGreat.Civ
set_option linter.unusedVariables false
set_option linter.unusedSimpArgs false
open Go.RowKit Go.Proofs.YthkmckmfgglafaaGreatW.PrintWords Go.Proofs.YthkmckmfgglafaaGreatW.PrintLast Go.Proofs.YthkmckmfgglafaaGreatW.PrintMore Go.Proofs.YthkmckmfgglafaaGreat.P
theorem divide_ev (a b : Int) (ha : 0 ≤ a) (ha1 : a < 6277101735386680763835789423207666416102355444464034512896) (hb : 0 < b) (hb1 : b ≤ 3138550867693340381917894711603833208051177722232017256448) :
    Ev (fun k => computusref01_divide.f k (dig a) (dig b)) (dig (a / b), dig (a % b)) := by
  unfold computusref01_divide.f
  refine Ev.pos (by decide) ?_
  have h := divide_loop a b ha ha1 hb hb1 192 0 0 (by omega) (by omega) (by omega) hb (by
    have : a / 2 ^ 192 = 0 := Int.ediv_eq_zero_of_lt ha ha1
    rw [this]; simp)
  exact h
theorem fl_signs1 {x y : Int} (hy : y ≠ 0) : fl x y = if (ng x != ng y) = true then (if ab x % ab y = 0 then -(ab x / ab y) else -(ab x / ab y) - 1) else ab x / ab y := by
  have h := fl_signs (a := x) (b := 1) (c := y) rfl rfl hy
  rw [Int.mul_one, ab_pos (a := 1) (by omega), Int.mul_one] at h
  rw [h]
  have e : (((decide (x < 0)) != (decide ((1 : Int) < 0))) != (decide (y < 0))) = (ng x != ng y) := by
    unfold ng; rw [show decide ((1 : Int) < 0) = false from rfl]; cases decide (x < 0) <;> cases decide (y < 0) <;> rfl
  rw [e]
theorem over_ev {x y : Int} (hx : Half x) (hy : Half y) (h0 : y ≠ 0) : Ev (fun k => computusref01_Over.f k (ng x) (dg x) (ng y) (dg y)) (ng (fl x y), dg (fl x y)) := by
  have bx := ab_half hx
  have by_ := ab_half hy
  have hD : 0 < ab y := by have := ab_zero (x := y); omega
  have hq0 : 0 ≤ ab x / ab y := Int.ediv_nonneg bx.1 (by omega)
  have hq1 : ab x / ab y ≤ ab x := Int.ediv_le_self _ bx.1
  have hr0 := Int.emod_nonneg (ab x) (Int.ne_of_gt hD)
  have hr1 := Int.emod_lt_of_pos (ab x) hD
  have neg_ab : ∀ P : Int, 0 ≤ P → ab (-P) = P := fun P h => by unfold ab; split <;> omega
  unfold computusref01_Over.f
  refine Ev.bind (divide_ev (ab x) (ab y) bx.1 (by omega) hD by_.2) ?_
  have hf := fl_signs1 (x := x) h0
  unfold dg at *
  by_cases g : (ng x != ng y) = true
  · rw [if_pos g] at hf
    simp only [if_pos g]
    refine Ev.bind (zero_ev hr0 (by omega)) ?_
    refine Ev.succ ?_
    simp only [computusref01_Over.j0, if_pos g]
    by_cases z : ab x % ab y = 0
    · rw [if_pos z] at hf
      rw [decide_eq_true z, hf, neg_ab _ hq0]
      refine Ev.neg (by simp) ?_
      refine Ev.bind (zero_ev hq0 (by omega)) ?_
      have : (!decide (ab x / ab y = 0)) = ng (-(ab x / ab y)) := by
        by_cases w : ab x / ab y = 0
        · rw [w]; rfl
        · rw [decide_eq_false w, ng_true (by omega)]; rfl
      rw [this]; exact Ev.now _
    · rw [if_neg z] at hf
      rw [decide_eq_false z, hf, show -(ab x / ab y) - 1 = -(ab x / ab y + 1) by omega, neg_ab _ (by omega), ng_true (by omega)]
      refine Ev.pos (by simp) ?_
      rw [of_eq 1 (by unfold I64; omega)]
      refine Ev.bind0 rfl ?_
      refine Ev.bind (add_ev hq0 (by decide) (show ab x / ab y + ab 1 < _ by rw [ab_pos (a := 1) (by omega)]; omega)) ?_
      rw [ab_pos (a := 1) (by omega)]
      refine Ev.bind (zero_ev (by omega) (by omega)) ?_
      rw [decide_eq_false (by omega)]
      exact Ev.now _
  · rw [if_neg g] at hf
    simp only [if_neg g]
    refine Ev.succ ?_
    simp only [computusref01_Over.j0, if_neg g]
    refine Ev.neg (by simp) ?_
    rw [hf, ng_false (by omega), ab_pos hq0]
    exact Ev.now _
theorem fl_half {x y : Int} (hx : Half x) (h0 : y ≠ 0) : Half (fl x y) := by
  have bx := ab_half hx
  have hD : 0 < ab y := by have := ab_zero (x := y); unfold ab at *; split at * <;> omega
  have hq0 : 0 ≤ ab x / ab y := Int.ediv_nonneg bx.1 (by omega)
  have hq1 : ab x / ab y ≤ ab x := Int.ediv_le_self _ bx.1
  rw [fl_signs1 h0]
  split
  · split
    · unfold Half; omega
    · rename_i z
      have e := Int.mul_ediv_add_emod (ab x) (ab y)
      have hr0 := Int.emod_nonneg (ab x) (Int.ne_of_gt hD)
      have hr1 := Int.emod_lt_of_pos (ab x) hD
      have h3 : ab x / ab y ≤ ab y * (ab x / ab y) := by
        have := Int.mul_le_mul_of_nonneg_right (show (1 : Int) ≤ ab y by omega) hq0
        omega
      unfold Half; omega
  · unfold Half; omega
theorem rdiv64_ev (a b : Int) (ha : I64 a) (hb : I64 b) (h0 : b ≠ 0) : Ev (fun k => computusref01_Div.f k a b) (out (fl a b)) := by
  unfold computusref01_Div.f
  rw [of_eq a ha, of_eq b hb]
  refine Ev.neg h0 ?_
  exact Ev.bind0 rfl (Ev.bind0 rfl (Ev.bind (over_ev (half_i64 ha) (half_i64 hb) h0) (Ev.bind (small_ev (half_wide (fl_half (half_i64 ha) h0))) (Ev.now _))))
theorem fl_word {a b : Int} (ha : I64 a) (h0 : b ≠ 0) : -18446744073709551615 ≤ fl a b ∧ fl a b ≤ 18446744073709551615 := by
  rcases fl_bd ha h0 with h | ⟨h1, h2⟩
  · exact i64_word h
  · subst h1; subst h2
    have : fl (-9223372036854775808) (-1) = 9223372036854775808 := by decide
    rw [this]; omega
theorem md_bd {a b : Int} (h0 : b ≠ 0) (hb : I64 b) : I64 (md a b) := by
  unfold I64 at *
  unfold md
  split
  · have g1 := Int.emod_nonneg (-a) (b := -b) (by omega)
    have g2 := Int.emod_lt_of_pos (-a) (b := -b) (by omega)
    omega
  · have g1 := Int.emod_nonneg a (b := b) (by omega)
    have g2 := Int.emod_lt_of_pos a (b := b) (by omega)
    omega
theorem rmod64_ev (a b : Int) (ha : I64 a) (hb : I64 b) (h0 : b ≠ 0) : Ev (fun k => computusref01_Mod.f k a b) (md a b, 0) := by
  have hfm := fl_md a b
  have hmd := md_bd (a := a) h0 hb
  have hw : Wide (b * fl a b) := by unfold I64 at ha hmd; unfold Wide; omega
  have hw2 : Wide (a + -(b * fl a b)) := by unfold I64 at hmd; unfold Wide; omega
  unfold computusref01_Mod.f
  rw [of_eq a ha, of_eq b hb]
  refine Ev.neg h0 ?_
  refine Ev.bind0 rfl (Ev.bind0 rfl (Ev.bind0 rfl (Ev.bind0 rfl (Ev.bind (over_ev (half_i64 ha) (half_i64 hb) h0) (Ev.bind (times_ev (i64_word hb) (fl_word ha h0)) (Ev.bind (minus_ev hw) (Ev.bind (plus_ev (wide_i64 ha) (wide_neg hw) hw2) (Ev.bind (small_ev hw2) ?_))))))))
  rw [show a + -(b * fl a b) = md a b by omega, out_in hmd]
  exact Ev.now _
end Go.Proofs.YthkmckmfgglafaaGreat.Civ
namespace Go.Proofs.YthkmckmfgglafaaGreat.Civ
set_option linter.unusedVariables false
set_option linter.unusedSimpArgs false
open Go.RowKit Go.Proofs.YthkmckmfgglafaaGreatW.PrintWords Go.Proofs.YthkmckmfgglafaaGreatW.PrintLast Go.Proofs.YthkmckmfgglafaaGreatW.PrintMore Go.Proofs.YthkmckmfgglafaaGreat.P
/-- A day from the year -4712 to 294276. -/
def DIn (n : Int) : Prop := -2451507 ≤ n ∧ n ≤ 106751982
instance (n : Int) : Decidable (DIn n) := inferInstanceAs (Decidable (_ ∧ _))
theorem dby_lo : dby (-4712) = -2451507 := by decide
theorem dby_hi : dby 294277 = 106751983 := by decide
theorem din_year {n y m d : Int} (h : IsDate n y m d) : (-4712 ≤ y ∧ y ≤ 294276) ↔ DIn n := by
  have g := h.year
  have a := dby_lo
  have b := dby_hi
  unfold DIn
  constructor
  · intro f
    have p := dby_far (-4712) y (by omega)
    have q := dby_far (y + 1) 294277 (by omega)
    omega
  · intro f
    constructor
    · rcases Int.lt_or_le y (-4712) with z | z
      · have p := dby_far (y + 1) (-4712) (by omega)
        omega
      · exact z
    · rcases Int.lt_or_le 294276 y with z | z
      · have p := dby_far 294277 y (by omega)
        omega
      · exact z
theorem din_can {n : Int} (h : DIn n) : CanDay n := by unfold DIn at h; unfold CanDay; omega
theorem din_i64 {n : Int} (h : DIn n) : I64 n := by unfold DIn at h; unfold I64; omega
theorem inside_eq (n : Int) : day_inside.f n = some (decide (DIn n)) := by
  unfold day_inside.f
  by_cases hc : CanDay n
  · obtain ⟨y, m, d, h⟩ := date_of n
    rw [date_eq h hc]
    have e := din_year h
    simp only [Option.bind_some, if_true]
    by_cases g : y ≥ -4712
    · rw [if_pos g]; congr 1; apply decide_eq_decide.2; rw [← e]; omega
    · rw [if_neg g, decide_eq_false]; rw [← e]; omega
  · rw [date_no hc]
    simp only [Option.bind_some]
    rw [if_neg (by decide), decide_eq_false (fun f => hc (din_can f))]
theorem rinside_ev (n : Int) : Ev (fun k => computusref15_inside.f k n) (decide (DIn n)) := by
  unfold computusref15_inside.f
  by_cases hc : CanDay n
  · obtain ⟨y, m, d, h⟩ := date_of n
    have e := din_year h
    refine Ev.bind (rdate_ev h hc) ?_
    refine Ev.pos rfl ?_
    by_cases g : y ≥ -4712
    · refine Ev.pos g (Ev.cast (Ev.now _) ?_)
      apply decide_eq_decide.2; rw [← e]; show y ≤ 294276 ↔ _; omega
    · refine Ev.neg g (Ev.cast (Ev.now _) ?_)
      rw [decide_eq_false]; rw [← e]; omega
  · refine Ev.bind (rdate_no hc) ?_
    refine Ev.neg (by decide) (Ev.cast (Ev.now _) ?_)
    rw [decide_eq_false (fun f => hc (din_can f))]
/-- A date or an error. -/
def made (n : Int) : Int × Int × Int := if DIn n then (0, n, 0) else (0, 0, 10)
def madeE (n e : Int) : Int × Int × Int := if e = 0 then made n else (0, 0, 10)
theorem finite_eq (n e : Int) : day_finite.f n e = some (madeE n e) := by
  unfold day_finite.f madeE made
  by_cases h : e = 0
  · rw [if_pos h, if_pos h, inside_eq]
    simp only [Option.bind_some, decide_eq_true_eq]
    split <;> rfl
  · rw [if_neg h, if_neg h]
def makeD (y m d : Int) : Int × Int × Int := if DateOk y m d then made (dnum y m d) else (0, 0, 10)
theorem makeD_eq (y m d : Int) : day_Make.f y m d = some (makeD y m d) := by
  unfold day_Make.f makeD
  rw [days_eq]
  simp only [Option.bind_some]
  rw [finite_eq]
  by_cases h : DateOk y m d
  · rw [if_pos h, if_pos h]; rfl
  · rw [if_neg h, if_neg h]; rfl
/-- A date that can be. -/
def DR (i n : Int) : Prop := (i = 0 ∧ DIn n) ∨ ((i = -1 ∨ i = 1) ∧ n = 0)
instance (i n : Int) : Decidable (DR i n) := inferInstanceAs (Decidable (_ ∨ _))
theorem dr_fin {n : Int} : DR 0 n ↔ DIn n := by unfold DR DIn; omega
theorem dright_eq (i n : Int) : day_Right.f i n = some (decide (DR i n)) := by
  unfold day_Right.f
  simp only [Bool.and_eq_true, beq_iff_eq]
  by_cases h1 : i = -1 ∧ n = 0
  · rw [if_pos h1, decide_eq_true (show DR i n from .inr ⟨.inl h1.1, h1.2⟩)]
  · rw [if_neg h1]
    by_cases h2 : i = 1 ∧ n = 0
    · rw [if_pos h2, decide_eq_true (show DR i n from .inr ⟨.inr h2.1, h2.2⟩)]
    · rw [if_neg h2]
      by_cases h3 : i = 0
      · subst h3
        rw [if_pos rfl, inside_eq]
        simp only [Option.bind_some]
        congr 1; exact decide_eq_decide.2 dr_fin.symm
      · rw [if_neg h3, decide_eq_false (show ¬ DR i n by unfold DR; omega)]
/-- The order of two that are each infinite or not. -/
def lex (i n j m : Int) : Int := if sgn i j = 0 then sgn n m else sgn i j
theorem rorder_ev (i n j m : Int) : Ev (fun k => computusref15_order.f k i j n m) (lex i n j m) := by
  unfold computusref15_order.f lex
  rcases Int.lt_trichotomy i j with h | h | h
  · rw [sgn_lt h, if_neg (by decide)]
    refine Ev.pos h (Ev.succ ?_)
    simp only [computusref15_order.j0, if_true]
    exact Ev.now _
  · rw [sgn_eq h, if_pos rfl]
    refine Ev.neg (by omega) (Ev.pos h (Ev.succ ?_))
    rcases Int.lt_trichotomy n m with g | g | g
    · rw [sgn_lt g, decide_eq_true g]
      simp only [computusref15_order.j0, if_true]
      exact Ev.now _
    · rw [sgn_eq g, decide_eq_false (by omega)]
      simp only [computusref15_order.j0, Bool.false_eq_true, if_false]
      exact Ev.neg (by omega) (Ev.neg (by omega) (Ev.now _))
    · rw [sgn_gt g, decide_eq_false (by omega)]
      simp only [computusref15_order.j0, Bool.false_eq_true, if_false]
      exact Ev.neg (by omega) (Ev.pos g (Ev.now _))
  · rw [sgn_gt h, if_neg (by decide)]
    refine Ev.neg (by omega) (Ev.neg (by omega) (Ev.succ ?_))
    simp only [computusref15_order.j0, Bool.false_eq_true, if_false]
    exact Ev.pos h (Ev.now _)
/-- A stamp that can be. -/
def DRS (i u : Int) : Prop := (i = 0 ∧ DIn (u / 86400000000)) ∨ ((i = -1 ∨ i = 1) ∧ u = 0)
instance (i u : Int) : Decidable (DRS i u) := inferInstanceAs (Decidable (_ ∨ _))
theorem drs_fin {u : Int} : DRS 0 u ↔ DIn (u / 86400000000) := by unfold DRS DIn; omega
theorem drightS_ev (i u : Int) (hu : I64 u) : Ev (fun k => day_RightStamp.f k i u) (decide (DRS i u)) := by
  unfold day_RightStamp.f
  refine Ev.bind (Ev.at1 fun k => split_eq k u hu) ?_
  simp only [Bool.and_eq_true, beq_iff_eq]
  by_cases h1 : i = -1 ∧ u = 0
  · exact Ev.pos h1 (Ev.cast (Ev.now _) (decide_eq_true (show DRS i u from .inr ⟨.inl h1.1, h1.2⟩)).symm)
  · refine Ev.neg h1 ?_
    by_cases h2 : i = 1 ∧ u = 0
    · exact Ev.pos h2 (Ev.cast (Ev.now _) (decide_eq_true (show DRS i u from .inr ⟨.inr h2.1, h2.2⟩)).symm)
    · refine Ev.neg h2 ?_
      by_cases h3 : i = 0
      · subst h3
        refine Ev.pos rfl (Ev.bind0 (inside_eq _) (Ev.cast (Ev.now _) ?_))
        exact decide_eq_decide.2 drs_fin.symm
      · refine Ev.neg h3 (Ev.cast (Ev.now _) ?_)
        rw [decide_eq_false (show ¬ DRS i u by unfold DRS; omega)]
theorem rsplit_ev (u : Int) (hu : I64 u) : Ev (fun k => computusref01_Split.f k u) (u / 86400000000, u % 86400000000) := by
  have hb : I64 86400000000 := by unfold I64; omega
  unfold computusref01_Split.f
  refine Ev.bind (rdiv64_ev u 86400000000 hu hb (by decide)) ?_
  refine Ev.bind (rmod64_ev u 86400000000 hu hb (by decide)) ?_
  refine Ev.cast (Ev.now _) ?_
  rw [fl_pos (by decide), md_pos (by decide), out_in (by unfold I64 at *; omega)]
theorem rdrightS_ev (i u : Int) (hu : I64 u) : Ev (fun k => computusref15_RightStamp.f k i u) (decide (DRS i u)) := by
  unfold computusref15_RightStamp.f
  have e : (u == 0) = decide (u = 0) := rfl
  by_cases h : i = 0
  · subst h
    refine Ev.pos rfl (Ev.bind (rsplit_ev u hu) (Ev.bind (rinside_ev _) (Ev.cast (Ev.now _) ?_)))
    exact decide_eq_decide.2 drs_fin.symm
  · refine Ev.neg h ?_
    by_cases h1 : i = -1
    · refine Ev.pos h1 (Ev.cast (Ev.now _) ?_)
      rw [e]; apply decide_eq_decide.2; unfold DRS; omega
    · refine Ev.neg h1 ?_
      by_cases h2 : i = 1
      · refine Ev.pos h2 (Ev.cast (Ev.now _) ?_)
        rw [e]; apply decide_eq_decide.2; unfold DRS; omega
      · refine Ev.neg h2 (Ev.cast (Ev.now _) ?_)
        rw [decide_eq_false (show ¬ DRS i u by unfold DRS; omega)]
def ofD (i u : Int) : Int × Int × Int × Int := if DRS i u then (if i = 0 then (0, u / 86400000000, u % 86400000000, 0) else (i, 0, 0, 0)) else (0, 0, 0, 1)
theorem ofD_ev (i u : Int) (hu : I64 u) : Ev (fun k => day_Of.f k i u) (ofD i u) := by
  unfold day_Of.f ofD
  refine Ev.bind (drightS_ev i u hu) ?_
  by_cases h : DRS i u
  · rw [if_pos h]
    refine Ev.pos (decide_eq_true h) ?_
    by_cases g : i = 0
    · refine Ev.pos g ?_; rw [if_pos g]; exact Ev.bind (Ev.at1 fun k => split_eq k u hu) (Ev.now _)
    · refine Ev.neg g ?_; rw [if_neg g]; exact Ev.now _
  · rw [if_neg h]
    exact Ev.neg (by rw [decide_eq_false h]; simp) (Ev.now _)
def cmpT (i u j v : Int) : Int := if DRS i u ∧ DRS j v then lex i u j v else 0
theorem rcmpT_ev (i u j v : Int) (hu : I64 u) (hv : I64 v) : Ev (fun k => computusref15_CmpStamp.f k i u j v) (cmpT i u j v) := by
  unfold computusref15_CmpStamp.f cmpT
  refine Ev.bind (rdrightS_ev i u hu) ?_
  by_cases h : DRS i u
  · refine Ev.pos (decide_eq_true h) (Ev.bind (rdrightS_ev j v hv) ?_)
    by_cases g : DRS j v
    · rw [if_pos ⟨h, g⟩]
      exact Ev.pos (decide_eq_true g) (Ev.bind (rorder_ev i u j v) (Ev.now _))
    · rw [if_neg (fun f => g f.2)]
      exact Ev.neg (by rw [decide_eq_false g]; simp) (Ev.now _)
  · rw [if_neg (fun f => h f.1)]
    exact Ev.neg (by rw [decide_eq_false h]; simp) (Ev.now _)
/-- A date and a time of its day as a stamp. -/
def stampD (i n t : Int) : Int × Int × Int :=
  if DR i n ∧ 0 ≤ t ∧ t ≤ 86400000000 then (if i = 0 then (if DIn ((n * 86400000000 + t) / 86400000000) then (0, n * 86400000000 + t, 0) else (0, 0, 10)) else (i, 0, 0)) else (0, 0, 1)
theorem stampD_j0 (i n t : Int) (h : DR i n ∧ 0 ≤ t ∧ t ≤ 86400000000) : Ev (fun k => day_Stamp.j0 k t false i n) (stampD i n t) := by
  obtain ⟨h, h0, h1⟩ := h
  unfold stampD
  rw [if_pos ⟨h, h0, h1⟩]
  refine Ev.succ ?_
  simp only [day_Stamp.j0, Bool.false_eq_true, if_false]
  by_cases g : i = 0
  · rw [if_pos g]
    have hn : DIn n := by subst g; exact dr_fin.1 h
    have b : -211810204800000000 ≤ n * 86400000000 ∧ n * 86400000000 ≤ 9223371244800000000 := by unfold DIn at hn; omega
    refine Ev.pos g (Ev.bind (Ev.at1 fun k => mul_eq k n 86400000000 (din_i64 hn) (by unfold I64; omega)) ?_)
    rw [out_in (z := n * 86400000000) (by unfold I64; omega)]
    refine Ev.pos rfl (Ev.bind0 (add_eq _ t (by unfold I64; omega) (by unfold I64; omega)) ?_)
    rw [out_in (z := n * 86400000000 + t) (by unfold I64; omega)]
    refine Ev.pos rfl (Ev.bind (drightS_ev 0 _ (by unfold I64; omega)) ?_)
    by_cases z : DIn ((n * 86400000000 + t) / 86400000000)
    · rw [if_pos z]
      exact Ev.pos (decide_eq_true (.inl ⟨rfl, z⟩)) (Ev.now _)
    · rw [if_neg z]
      refine Ev.neg ?_ (Ev.now _)
      rw [decide_eq_false]
      · simp
      · intro f
        rcases f with f | f
        · exact z f.2
        · omega
  · refine Ev.neg g ?_
    rw [if_neg g]
    exact Ev.now _
theorem stampD_ev (i n t : Int) : Ev (fun k => day_Stamp.f k i n t) (stampD i n t) := by
  unfold day_Stamp.f
  refine Ev.bind0 (dright_eq i n) ?_
  have no : ¬ (DR i n ∧ 0 ≤ t ∧ t ≤ 86400000000) → Ev (fun k => day_Stamp.j0 k t true i n) (stampD i n t) := by
    intro f
    unfold stampD
    rw [if_neg f]
    refine Ev.succ ?_
    simp only [day_Stamp.j0, if_true]
    exact Ev.now _
  by_cases h : DR i n
  · refine Ev.pos (decide_eq_true h) ?_
    by_cases h0 : t < 0
    · exact Ev.pos h0 (no (by omega))
    · refine Ev.neg h0 ?_
      by_cases h1 : t > 86400000000
      · rw [decide_eq_true h1]; exact no (by omega)
      · rw [decide_eq_false h1]; exact stampD_j0 i n t ⟨h, by omega, by omega⟩
  · exact Ev.neg (by rw [decide_eq_false h]; simp) (no (fun f => h f.1))
theorem startD_ev (i n : Int) : Ev (fun k => day_Start.f k i n) (stampD i n 0) := by
  unfold day_Start.f
  exact Ev.bind (stampD_ev i n 0) (Ev.now _)
end Go.Proofs.YthkmckmfgglafaaGreat.Civ
namespace Go.Proofs.YthkmckmfgglafaaGreat.Civ
set_option linter.unusedVariables false
set_option linter.unusedSimpArgs false
open Go.RowKit Go.Proofs.YthkmckmfgglafaaGreat.P Go.Proofs.YthkmckmfgglafaaGreatW.PrintWords Go.Proofs.YthkmckmfgglafaaGreatW.PrintLast Go.Proofs.YthkmckmfgglafaaGreatW.PrintMore
theorem made0_ev (u : Int) (hu : I64 u) : Ev (fun k => trMdF k u) (if DRS 0 u then (0, u, 0) else (0, 0, 10)) := by
  unfold trMdF
  refine Ev.bind (drightS_ev 0 u hu) (Ev.cast (Ev.now _) ?_)
  by_cases g : DRS 0 u
  · rw [if_pos g, if_pos (decide_eq_true g)]
  · rw [if_neg g, if_neg (by simp [g])]
theorem flo_ev (a b : Int) (ha : I64 a) (hb : 0 < b) (hb2 : b ≤ 86400000000) : Ev (fun k => ops_floor.f k a b) (a / b) := by
  unfold ops_floor.f
  have hq : I64 (a / b) := by
    unfold I64 at *
    have h1 : a / b ≤ 9223372036854775807 := by
      rcases Int.lt_or_le a 0 with h | h
      · have := Int.ediv_neg_of_neg_of_pos h hb; omega
      · have := Int.ediv_le_self b h; omega
    have h2 : -9223372036854775808 ≤ a / b := by
      rw [Int.le_ediv_iff_mul_le hb]
      have : (1 : Int) ≤ b := hb
      omega
    exact ⟨h2, h1⟩
  have h : Ev (fun k => num_Div.f k a b) (out (fl a b)) := Ev.at1 fun k => div_eq k a b ha (by unfold I64; omega) (by omega)
  rw [fl_pos hb, out_in hq] at h
  exact Ev.bind h (Ev.now _)
theorem ymd_ex (n : Int) : ∃ t : Int × Int × Int, IsDate n t.1 t.2.1 t.2.2 := by
  obtain ⟨y, m, d, h⟩ := date_of n
  exact ⟨(y, m, d), h⟩
/-- A day's date. -/
noncomputable def ymd (n : Int) : Int × Int × Int := Classical.choose (ymd_ex n)
theorem ymd_ok (n : Int) : IsDate n (ymd n).1 (ymd n).2.1 (ymd n).2.2 := Classical.choose_spec (ymd_ex n)
theorem ymd_is {n y m d : Int} (h : IsDate n y m d) : ymd n = (y, m, d) := by
  obtain ⟨h1, h2, h3⟩ := (ymd_ok n).unique h
  rw [← h1, ← h2, ← h3]
def fY (j : Nat) (y : Int) : Int := if j = 10 then y / 10 * 10 else if j = 11 then (y - 1) / 100 * 100 + 1 else if j = 12 then (y - 1) / 1000 * 1000 + 1 else y
def fM (j : Nat) (m : Int) : Int := if j = 7 then m else if j = 8 then m - (m - 1) % 3 else 1
theorem fY_le (j : Nat) (y : Int) : fY j y ≤ y ∧ y - 1000 < fY j y ∧ fY j (fY j y) = fY j y := by
  unfold fY
  split
  · omega
  · split
    · omega
    · split <;> omega
theorem fM_le (j : Nat) {m : Int} (h1 : 1 ≤ m) (h2 : m ≤ 12) : 1 ≤ fM j m ∧ fM j m ≤ m ∧ fM j (fM j m) = fM j m := by
  unfold fM
  split
  · omega
  · split <;> omega
theorem first_ev {j : Nat} (hj : j = 7 ∨ j = 8 ∨ j = 9 ∨ j = 10 ∨ j = 11 ∨ j = 12) {y m : Int} (hy : -1000000 ≤ y ∧ y ≤ 1000000) (h1 : 1 ≤ m) (h2 : m ≤ 12) : Ev (fun k => trFirst k j y m) (fY j y, fM j m) := by
  rcases hj with rfl | rfl | rfl | rfl | rfl | rfl
  · exact Ev.now _
  · refine Ev.cast (Ev.now _) ?_
    rw [w64 (x := m - 1) (by omega) (by omega), tm_pos (by omega), w64 (by omega) (by omega)]; rfl
  · exact Ev.now _
  · refine Ev.bind (flo_ev y 10 (by unfold I64; omega) (by omega) (by omega)) (Ev.cast (Ev.now _) ?_)
    rw [w64 (by omega) (by omega)]; rfl
  · show Ev (fun k => (ops_floor.f k (wrap64 (y - 1)) 100).bind fun q => some (wrap64 (wrap64 (q * 100) + 1), (1 : Int))) _
    rw [w64 (x := y - 1) (by omega) (by omega)]
    refine Ev.bind (flo_ev (y - 1) 100 (by unfold I64; omega) (by omega) (by omega)) (Ev.cast (Ev.now _) ?_)
    rw [w64 (x := (y - 1) / 100 * 100) (by omega) (by omega), w64 (by omega) (by omega)]; rfl
  · show Ev (fun k => (ops_floor.f k (wrap64 (y - 1)) 1000).bind fun q => some (wrap64 (wrap64 (q * 1000) + 1), (1 : Int))) _
    rw [w64 (x := y - 1) (by omega) (by omega)]
    refine Ev.bind (flo_ev (y - 1) 1000 (by unfold I64; omega) (by omega) (by omega)) (Ev.cast (Ev.now _) ?_)
    rw [w64 (x := (y - 1) / 1000 * 1000) (by omega) (by omega), w64 (by omega) (by omega)]; rfl
/-- A stamp that is cut to a field. -/
noncomputable def cutV (j : Nat) (u : Int) : Option Int :=
  if j < 6 then some (u / trUnit j * trUnit j)
  else if j = 6 then (if DIn (u / 86400000000 - (u / 86400000000 + 5) % 7) then some ((u / 86400000000 - (u / 86400000000 + 5) % 7) * 86400000000) else none)
  else if DIn (dnum (fY j (ymd (u / 86400000000)).1) (fM j (ymd (u / 86400000000)).2.1) 1) then some (dnum (fY j (ymd (u / 86400000000)).1) (fM j (ymd (u / 86400000000)).2.1) 1 * 86400000000) else none
theorem unit_cases {j : Nat} (h : j < 6) : trUnit j = 1 ∨ trUnit j = 1000 ∨ trUnit j = 1000000 ∨ trUnit j = 60000000 ∨ trUnit j = 3600000000 ∨ trUnit j = 86400000000 := by
  match j, h with
  | 0, _ => exact .inl rfl
  | 1, _ => exact .inr (.inl rfl)
  | 2, _ => exact .inr (.inr (.inl rfl))
  | 3, _ => exact .inr (.inr (.inr (.inl rfl)))
  | 4, _ => exact .inr (.inr (.inr (.inr (.inl rfl))))
  | 5, _ => exact .inr (.inr (.inr (.inr (.inr rfl))))
/-- Cut to a day or less: the same day. -/
theorem small_cut {j : Nat} (h : j < 6) (u : Int) : u / trUnit j * trUnit j ≤ u ∧ u / trUnit j * trUnit j / 86400000000 = u / 86400000000 ∧ u / trUnit j * trUnit j / trUnit j * trUnit j = u / trUnit j * trUnit j := by
  rcases unit_cases h with e | e | e | e | e | e <;> rw [e] <;> omega
theorem start_in {n : Int} (h : DIn n) : stampD 0 n 0 = (0, n * 86400000000, 0) := by
  unfold stampD
  have e : n * 86400000000 + 0 = n * 86400000000 := by omega
  have e2 : n * 86400000000 / 86400000000 = n := by omega
  rw [if_pos ⟨.inl ⟨rfl, h⟩, by omega, by omega⟩, if_pos rfl, e, e2, if_pos h]
theorem din_y {n : Int} (h : DIn n) : -4712 ≤ (ymd n).1 ∧ (ymd n).1 ≤ 294276 := (din_year (ymd_ok n)).2 h
theorem cut_ev {j : Nat} (hj : j ≤ 12) {u : Int} (hu : I64 u) (h : DRS 0 u) :
    Ev (fun k => trCut k j 0 (u / 86400000000) u) (match cutV j u with | some v => (0, v, 0) | none => (0, 0, 10)) := by
  have hD : DIn (u / 86400000000) := drs_fin.1 h
  have hD' := hD
  unfold DIn at hD'
  unfold trCut cutV
  by_cases h6 : j < 6
  · simp only [if_pos h6]
    have sc := small_cut h6 u
    have uc := unit_cases h6
    have i1 : I64 (u / trUnit j * trUnit j) := by unfold I64; omega
    refine Ev.bind (flo_ev u (trUnit j) hu (by omega) (by omega)) ?_
    rw [w64_of i1]
    refine Ev.cast (made0_ev _ i1) (if_pos (drs_fin.2 ?_))
    rw [sc.2.1]; exact hD
  · simp only [if_neg h6]
    by_cases h7 : j = 6
    · simp only [if_pos h7]
      refine Ev.bind0 (weekday_eq _ (din_i64 hD)) ?_
      have wb := wday_bd (u / 86400000000)
      have e1 : Int.tmod (wrap64 (wday (u / 86400000000) + 6)) 7 = (u / 86400000000 + 5) % 7 := by
        rw [w64 (by omega) (by omega), tm_pos (by omega)]; unfold wday; omega
      rw [e1, w64 (x := u / 86400000000 - (u / 86400000000 + 5) % 7) (by omega) (by omega)]
      have i1 : I64 ((u / 86400000000 - (u / 86400000000 + 5) % 7) * 86400000000) := by unfold I64; omega
      rw [w64_of i1]
      refine Ev.cast (made0_ev _ i1) ?_
      have e2 : (u / 86400000000 - (u / 86400000000 + 5) % 7) * 86400000000 / 86400000000 = u / 86400000000 - (u / 86400000000 + 5) % 7 := by omega
      by_cases g : DIn (u / 86400000000 - (u / 86400000000 + 5) % 7)
      · rw [if_pos g, if_pos (drs_fin.2 (by rw [e2]; exact g))]
      · rw [if_neg g, if_neg (fun q => g (by have := drs_fin.1 q; rw [e2] at this; exact this))]
    · simp only [if_neg h7]
      have hd := ymd_ok (u / 86400000000)
      have hy := din_y hD
      generalize ymd (u / 86400000000) = t at *
      obtain ⟨y, m, d⟩ := t
      simp only at hd hy ⊢
      have hP : day_Parts.f 0 (u / 86400000000) = some (y, m, d, 0) := by
        unfold day_Parts.f
        rw [dright_eq, decide_eq_true (show DR 0 (u / 86400000000) from .inl ⟨rfl, hD⟩)]
        simp only [Option.bind_some, if_true]
        rw [date_eq hd (din_can hD)]; rfl
      refine Ev.bind0 hP (Ev.bind (first_ev (by omega) (by omega) hd.m1 hd.m12) (Ev.bind0 (makeD_eq _ _ _) ?_))
      have a1 := fY_le j y
      have a2 := fM_le j hd.m1 hd.m12
      have ml := mlen_bd (fY j y) (fM j m) a2.1 (by have := hd.m12; omega)
      have hok : DateOk (fY j y) (fM j m) 1 ∨ ¬ DIn (dnum (fY j y) (fM j m) 1) := by
        by_cases g : DateOk (fY j y) (fM j m) 1
        · exact .inl g
        · refine .inr fun q => g ?_
          have hi : IsDate (dnum (fY j y) (fM j m) 1) (fY j y) (fM j m) 1 := ⟨a2.1, by have := hd.m12; omega, by omega, by omega, rfl⟩
          have := (din_year hi).2 q
          exact ⟨by omega, by omega, a2.1, by have := hd.m12; omega, by omega, by omega⟩
      unfold makeD
      by_cases q : DIn (dnum (fY j y) (fM j m) 1)
      · rw [if_pos q, if_pos (hok.resolve_right (fun f => f q))]
        unfold made
        rw [if_pos q]
        exact Ev.pos rfl (Ev.cast (startD_ev _ _) (start_in q))
      · rw [if_neg q]
        by_cases g : DateOk (fY j y) (fM j m) 1
        · rw [if_pos g]
          unfold made
          rw [if_neg q]
          exact Ev.neg (by decide) (Ev.now _)
        · rw [if_neg g]
          exact Ev.neg (by decide) (Ev.now _)
/-- What is cut is right, not behind, and cut again it is the same. -/
theorem cut_good {j : Nat} {u v : Int} (h : DRS 0 u) (hv : cutV j u = some v) : DRS 0 v ∧ v ≤ u ∧ cutV j v = some v := by
  have hD : DIn (u / 86400000000) := drs_fin.1 h
  unfold cutV at hv
  by_cases h6 : j < 6
  · rw [if_pos h6] at hv
    simp only [Option.some.injEq] at hv
    have sc := small_cut h6 u
    subst hv
    refine ⟨drs_fin.2 (by rw [sc.2.1]; exact hD), sc.1, ?_⟩
    unfold cutV
    rw [if_pos h6, sc.2.2]
  · rw [if_neg h6] at hv
    by_cases h7 : j = 6
    · rw [if_pos h7] at hv
      by_cases g : DIn (u / 86400000000 - (u / 86400000000 + 5) % 7)
      · rw [if_pos g] at hv
        simp only [Option.some.injEq] at hv
        have e2 : (u / 86400000000 - (u / 86400000000 + 5) % 7) * 86400000000 / 86400000000 = u / 86400000000 - (u / 86400000000 + 5) % 7 := by omega
        subst hv
        refine ⟨drs_fin.2 (by rw [e2]; exact g), by omega, ?_⟩
        unfold cutV
        have e3 : u / 86400000000 - (u / 86400000000 + 5) % 7 - (u / 86400000000 - (u / 86400000000 + 5) % 7 + 5) % 7 = u / 86400000000 - (u / 86400000000 + 5) % 7 := by omega
        rw [if_neg h6, if_pos h7, e2, e3, if_pos g]
      · rw [if_neg g] at hv; cases hv
    · rw [if_neg h7] at hv
      have hd := ymd_ok (u / 86400000000)
      generalize hn : dnum (fY j (ymd (u / 86400000000)).1) (fM j (ymd (u / 86400000000)).2.1) 1 = n at hv
      by_cases g : DIn n
      · rw [if_pos g] at hv
        simp only [Option.some.injEq] at hv
        have a1 := fY_le j (ymd (u / 86400000000)).1
        have a2 := fM_le j hd.m1 hd.m12
        have ml := mlen_bd (fY j (ymd (u / 86400000000)).1) (fM j (ymd (u / 86400000000)).2.1) a2.1 (by have := hd.m12; omega)
        have hi : IsDate n (fY j (ymd (u / 86400000000)).1) (fM j (ymd (u / 86400000000)).2.1) 1 := ⟨a2.1, by have := hd.m12; omega, by omega, by omega, hn⟩
        have hle : n ≤ u / 86400000000 := by
          refine hi.lt_of hd ?_
          have := hd.d1
          omega
        have e2 : v / 86400000000 = n := by omega
        refine ⟨drs_fin.2 (by rw [e2]; exact g), by omega, ?_⟩
        unfold cutV
        rw [if_neg h6, if_neg h7, e2, ymd_is hi]
        simp only
        rw [a1.2.2, a2.2.2, hn, if_pos g, hv]
      · rw [if_neg g] at hv; cases hv
theorem cut_day (u : Int) : cutV 5 u = some (u / 86400000000 * 86400000000) := by
  unfold cutV; rw [if_pos (by decide)]; rfl
theorem cut_month {u : Int} (h : DRS 0 u) : ∃ n, cutV 7 u = some (n * 86400000000) ∧ n ≤ u / 86400000000 ∧ n = dnum (ymd (u / 86400000000)).1 (ymd (u / 86400000000)).2.1 1 := by
  have hD : DIn (u / 86400000000) := drs_fin.1 h
  have hd := ymd_ok (u / 86400000000)
  have hy := din_y hD
  have ml := mlen_bd (ymd (u / 86400000000)).1 (ymd (u / 86400000000)).2.1 hd.m1 hd.m12
  have hi : IsDate (dnum (ymd (u / 86400000000)).1 (ymd (u / 86400000000)).2.1 1) (ymd (u / 86400000000)).1 (ymd (u / 86400000000)).2.1 1 := ⟨hd.m1, hd.m12, by omega, by omega, rfl⟩
  have g := (din_year hi).1 hy
  refine ⟨_, ?_, hi.lt_of hd (by have := hd.d1; omega), rfl⟩
  unfold cutV
  rw [if_neg (by decide), if_neg (by decide)]
  show (if DIn (dnum (ymd (u / 86400000000)).1 (ymd (u / 86400000000)).2.1 1) then _ else _) = _
  rw [if_pos g]; rfl
theorem cut_year {u : Int} (h : DRS 0 u) : ∃ n, cutV 9 u = some (n * 86400000000) ∧ n ≤ dnum (ymd (u / 86400000000)).1 (ymd (u / 86400000000)).2.1 1 := by
  have hD : DIn (u / 86400000000) := drs_fin.1 h
  have hd := ymd_ok (u / 86400000000)
  have hy := din_y hD
  have ml := mlen_bd (ymd (u / 86400000000)).1 (ymd (u / 86400000000)).2.1 hd.m1 hd.m12
  have ml1 := mlen_bd (ymd (u / 86400000000)).1 1 (by omega) (by omega)
  have hi : IsDate (dnum (ymd (u / 86400000000)).1 (ymd (u / 86400000000)).2.1 1) (ymd (u / 86400000000)).1 (ymd (u / 86400000000)).2.1 1 := ⟨hd.m1, hd.m12, by omega, by omega, rfl⟩
  have hi1 : IsDate (dnum (ymd (u / 86400000000)).1 1 1) (ymd (u / 86400000000)).1 1 1 := ⟨by omega, by omega, by omega, by omega, rfl⟩
  have g := (din_year hi1).1 hy
  refine ⟨_, ?_, hi1.lt_of hi (by have := hd.m1; omega)⟩
  unfold cutV
  rw [if_neg (by decide), if_neg (by decide)]
  show (if DIn (dnum (ymd (u / 86400000000)).1 1 1) then _ else _) = _
  rw [if_pos g]; rfl
/-- What Trunc hands back. -/
noncomputable def truncR (s : ByteArray) (i u : Int) : Int × Int × Int :=
  if DRS i u then (match trIdx (loS s) with
    | none => (0, 0, 23)
    | some j => if i = 0 then (match cutV j u with | some v => (0, v, 0) | none => (0, 0, 10)) else (i, u, 0))
  else (0, 0, 1)
theorem trIdx_le {f : ByteArray} {j : Nat} (h : trIdx f = some j) : j ≤ 12 := by
  have := trIdx_some h
  omega
theorem trunc_ev {s : ByteArray} (hs : s.size ≤ 140737488351232) (i u : Int) (hu : I64 u) : Ev (fun k => ops_Trunc.f k s i u) (truncR s i u) := by
  unfold ops_Trunc.f truncR
  refine Ev.pos (by omega) (Ev.bind (ofD_ev i u hu) ?_)
  unfold ofD
  by_cases h : DRS i u
  · rw [if_pos h, if_pos h]
    by_cases hi : i = 0
    · simp only [if_pos hi]
      refine Ev.pos trivial ?_
      subst hi
      rcases hj : trIdx (loS s) with _ | j
      · exact Ev.now _
      · exact cut_ev (trIdx_le hj) hu h
    · simp only [if_neg hi]
      refine Ev.pos trivial ?_
      rcases hj : trIdx (loS s) with _ | j
      · exact Ev.now _
      · exact Ev.now _
  · rw [if_neg h, if_neg h]
    exact Ev.neg (by decide) (Ev.now _)
end Go.Proofs.YthkmckmfgglafaaGreat.Civ
namespace Go.Proofs.YthkmckmfgglafaaGreat.Pure
set_option linter.unusedVariables false
set_option linter.unusedSimpArgs false
open Go.RowKit Go.Proofs.YthkmckmfgglafaaGreat.P Go.Proofs.YthkmckmfgglafaaGreatW.PrintWords Go.Proofs.YthkmckmfgglafaaGreatW.PrintLast Go.Proofs.YthkmckmfgglafaaGreat.Civ
theorem knownL : computuslaw20_known.f = some true := rfl
theorem idx_year : trIdx (loS ⟨#[121, 101, 97, 114]⟩) = some 9 := by decide +kernel
theorem idx_month : trIdx (loS ⟨#[109, 111, 110, 116, 104]⟩) = some 7 := by decide +kernel
theorem idx_day : trIdx (loS ⟨#[100, 97, 121]⟩) = some 5 := by decide +kernel
theorem cmp_le {a b : Int} (ha : DRS 0 a) (hb : DRS 0 b) (h : a ≤ b) : cmpT 0 a 0 b ≤ 0 := by
  unfold cmpT
  rw [if_pos ⟨ha, hb⟩]
  unfold lex
  rw [if_pos (sgn_eq rfl)]
  unfold sgn
  split
  · omega
  · rw [if_neg (by omega)]; omega
theorem cmp_same (i u : Int) : cmpT i u i u = 0 := by
  unfold cmpT
  split
  · unfold lex
    rw [sgn_eq rfl, sgn_eq rfl, if_pos rfl]
  · rfl
theorem drs_i64 {u : Int} (h : DRS 0 u) : I64 u := by
  have := drs_fin.1 h
  unfold DIn at this
  unfold I64; omega
/-- The fields year, month, day in their order. -/
theorem less_end {i u : Int} (hu : I64 u) (h : DRS i u) : Ev (fun k => computuslaw20_OpsLess.j0 k false i u) true := by
  refine Ev.succ ?_
  simp only [computuslaw20_OpsLess.j0, Bool.false_eq_true, if_false]
  refine Ev.bind (trunc_ev (by decide) i u hu) (Ev.bind (trunc_ev (by decide) i u hu) (Ev.bind (trunc_ev (by decide) i u hu) ?_))
  unfold truncR
  rw [if_pos h, if_pos h, if_pos h, idx_year, idx_month, idx_day]
  simp only
  by_cases hi : i = 0
  · subst hi
    obtain ⟨n, hn, hnu, hnd⟩ := cut_month h
    obtain ⟨y, hy, hyn⟩ := cut_year h
    simp only [if_true, hn, hy, cut_day]
    have gy := (cut_good h hy).1
    have gm := (cut_good h hn).1
    have gd := (cut_good h (cut_day u)).1
    refine Ev.bind (rcmpT_ev 0 _ 0 _ (drs_i64 gy) (drs_i64 gm)) (Ev.pos (cmp_le gy gm (by omega)) ?_)
    refine Ev.bind (rcmpT_ev 0 _ 0 _ (drs_i64 gm) (drs_i64 gd)) (Ev.pos (cmp_le gm gd (by omega)) ?_)
    rw [knownL]
    exact Ev.now _
  · simp only [if_neg hi, if_true]
    refine Ev.bind (rcmpT_ev i u i u hu hu) (Ev.pos (by rw [cmp_same]; omega) (Ev.bind (rcmpT_ev i u i u hu hu) (Ev.pos (by rw [cmp_same]; omega) ?_)))
    rw [knownL]
    exact Ev.now _
theorem OpsLess : computuslaw20_OpsLess.Pure := by
  intro s i u hs _ hu
  have hu := i64_of_wf hu
  refine Ev.rounds ?_
  unfold computuslaw20_OpsLess.f
  refine Ev.bind (trunc_ev hs i u hu) ?_
  have kn : Ev (fun _ => (computuslaw20_known.f).bind fun t600 => some t600) true := by rw [knownL]; exact Ev.now _
  by_cases h : DRS i u
  case neg =>
    rw [show truncR s i u = (0, 0, 1) by unfold truncR; rw [if_neg h]]
    exact Ev.neg (by decide) kn
  rcases hj : trIdx (loS s) with _ | j
  · rw [show truncR s i u = (0, 0, 23) by unfold truncR; rw [if_pos h, hj]]
    exact Ev.neg (by decide) kn
  by_cases hi : i = 0
  · subst hi
    rcases hc : cutV j u with _ | v
    · rw [show truncR s 0 u = (0, 0, 10) by unfold truncR; rw [if_pos h, hj]; simp only [if_true, hc]]
      exact Ev.neg (by decide) kn
    · obtain ⟨g1, g2, g3⟩ := cut_good h hc
      rw [show truncR s 0 u = (0, v, 0) by unfold truncR; rw [if_pos h, hj]; simp only [if_true, hc]]
      refine Ev.pos rfl (Ev.bind (trunc_ev hs 0 v (drs_i64 g1)) ?_)
      rw [show truncR s 0 v = (0, v, 0) by unfold truncR; rw [if_pos g1, hj]; simp only [if_true, g3]]
      refine Ev.pos rfl (Ev.neg (by simp) (Ev.bind (rcmpT_ev 0 v 0 u (drs_i64 g1) hu) ?_))
      have := cmp_le g1 h g2
      rw [decide_eq_false (by omega)]
      exact less_end hu h
  · have e : truncR s i u = (i, u, 0) := by unfold truncR; rw [if_pos h, hj]; simp only [if_neg hi]
    rw [e]
    refine Ev.pos rfl (Ev.bind (trunc_ev hs i u hu) ?_)
    rw [e]
    refine Ev.pos rfl (Ev.neg (by simp) (Ev.bind (rcmpT_ev i u i u hu hu) ?_))
    rw [cmp_same, decide_eq_false (by omega)]
    exact less_end hu h
end Go.Proofs.YthkmckmfgglafaaGreat.Pure
