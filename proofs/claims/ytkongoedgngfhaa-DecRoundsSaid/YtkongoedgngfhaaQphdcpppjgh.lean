/- The reference's division, bit by bit, and the functions of whole numbers that lean on it. -/
import Derived.Test.YtkongoedgngfhaaQfekobgjokg
import Derived.Test.YtkongoedgngfhaaQfkleinmccf
import Derived.Test.YtkongoedgngfhaaQeogcenpafo
import Derived.Test.YtkongoedgngfhaaQkemdehpojg
import Derived.Test.YtkongoedgngfhaaQcfpbadapkf
import Derived.Test.YtkongoedgngfhaaQllnkjlmgoa
import Derived.Test.YtkongoedgngfhaaQpajpnliled
namespace Go.Proofs.Ytkongoedgngfhaa.Civ
set_option linter.unusedVariables false
set_option linter.unusedSimpArgs false
open Go.RowKit Go.Proofs.YtkongoedgngfhaaW.PrintWords Go.Proofs.YtkongoedgngfhaaW.PrintLast Go.Proofs.YtkongoedgngfhaaW.PrintMore Go.Proofs.Ytkongoedgngfhaa.P
theorem pow_pos' (s : Nat) : (0 : Int) < 2 ^ s := by exact_mod_cast Nat.two_pow_pos s
theorem pow_split (s : Nat) (h : s < 32) : (4294967296 : Int) = 2 ^ s * (2 * 2 ^ (31 - s)) := by
  have e : (4294967296 : Int) = 2 ^ 32 := rfl
  rw [e, ← Int.pow_succ', ← Int.pow_add]
  congr 1; omega
/-- A bit of a part is a bit of the number. -/
theorem part_bit (x : Int) (s : Nat) (h : s < 32) : x % 4294967296 / 2 ^ s % 2 = x / 2 ^ s % 2 := by
  have hp := pow_pos' s
  have e : x = x % 4294967296 + 2 ^ s * (2 * 2 ^ (31 - s) * (x / 4294967296)) := by
    rw [← Int.mul_assoc, ← pow_split s h]; omega
  have e2 : x / 2 ^ s = x % 4294967296 / 2 ^ s + 2 * 2 ^ (31 - s) * (x / 4294967296) := by
    conv => lhs; rw [e]
    exact Int.add_mul_ediv_left _ _ (Int.ne_of_gt hp)
  rw [e2, Int.mul_assoc]; omega
theorem low_div (a : Int) (L : Int) (hL : 0 < L) (s : Nat) : a / L / 2 ^ s = a / (L * 2 ^ s) := Int.ediv_ediv_of_nonneg (by omega)
theorem rd_bit (a : Int) (n : Nat) (h : n < 192) : ∃ u, rd (dig a) ((n : Int) / 32) = u ∧ (0 ≤ u ∧ u < 4294967296) ∧ u / 2 ^ (n % 32) % 2 = a / 2 ^ n % 2 := by
  have hs : n % 32 < 32 := Nat.mod_lt _ (by omega)
  have hn : n = 32 * (n / 32) + n % 32 := by omega
  have hq : n / 32 = 0 ∨ n / 32 = 1 ∨ n / 32 = 2 ∨ n / 32 = 3 ∨ n / 32 = 4 ∨ n / 32 = 5 := by omega
  have hi : (n : Int) / 32 = ((n / 32 : Nat) : Int) := by omega
  rw [hi]
  generalize n % 32 = s at *
  generalize n / 32 = q at *
  subst hn
  rw [Int.pow_add]
  rcases hq with e | e | e | e | e | e <;> subst e
  · exact ⟨a % 4294967296, rfl, part_bd _, by rw [part_bit _ _ hs]; simp⟩
  · exact ⟨a / 4294967296 % 4294967296, rfl, part_bd _, by rw [part_bit _ _ hs, low_div _ _ (by omega)]; rfl⟩
  · exact ⟨a / 4294967296 / 4294967296 % 4294967296, rfl, part_bd _, by rw [part_bit _ _ hs, show a / 4294967296 / 4294967296 = a / 18446744073709551616 by omega, low_div _ _ (by omega)]; rfl⟩
  · exact ⟨a / 4294967296 / 4294967296 / 4294967296 % 4294967296, rfl, part_bd _, by rw [part_bit _ _ hs, show a / 4294967296 / 4294967296 / 4294967296 = a / 79228162514264337593543950336 by omega, low_div _ _ (by omega)]; rfl⟩
  · exact ⟨a / 4294967296 / 4294967296 / 4294967296 / 4294967296 % 4294967296, rfl, part_bd _, by rw [part_bit _ _ hs, show a / 4294967296 / 4294967296 / 4294967296 / 4294967296 = a / 340282366920938463463374607431768211456 by omega, low_div _ _ (by omega)]; rfl⟩
  · exact ⟨a / 4294967296 / 4294967296 / 4294967296 / 4294967296 / 4294967296 % 4294967296, rfl, part_bd _, by rw [part_bit _ _ hs, show a / 4294967296 / 4294967296 / 4294967296 / 4294967296 / 4294967296 = a / 1461501637330902918203684832716283019655932542976 by omega, low_div _ _ (by omega)]; rfl⟩
/-- A bit that is not set is set. -/
theorem set_bit (N : Int) (n : Nat) (h : n < 192) (h0 : 0 ≤ N) (h1 : N < 6277101735386680763835789423207666416102355444464034512896) (hm : N % 2 ^ (n + 1) = 0) :
    ∃ u, rd (dig N) ((n : Int) / 32) = u ∧ (0 ≤ u ∧ u < 4294967296) ∧ u % 2 ^ (n % 32 + 1) = 0 ∧ (dig N).set ((n : Int) / 32).toNat (u + 2 ^ (n % 32)) = dig (N + 2 ^ n) := by
  have hs : n % 32 < 32 := Nat.mod_lt _ (by omega)
  have hn : n = 32 * (n / 32) + n % 32 := by omega
  have hq : n / 32 = 0 ∨ n / 32 = 1 ∨ n / 32 = 2 ∨ n / 32 = 3 ∨ n / 32 = 4 ∨ n / 32 = 5 := by omega
  have hi : (n : Int) / 32 = ((n / 32 : Nat) : Int) := by omega
  rw [hi]
  generalize n % 32 = s at *
  generalize n / 32 = q at *
  subst hn
  have hp := pow_pos' s
  have hP := pow_split s hs
  have hsucc : (2 : Int) ^ (s + 1) = 2 * 2 ^ s := Int.pow_succ' _ _
  have hs1 : (4294967296 : Int) = 2 ^ (s + 1) * 2 ^ (31 - s) := by rw [hsucc, Int.mul_comm 2, Int.mul_assoc]; exact hP
  obtain ⟨w, hw⟩ : ∃ w, N = 2 ^ (32 * q + s + 1) * w := ⟨_, (Int.mul_ediv_cancel' (Int.dvd_of_emod_eq_zero hm)).symm⟩
  obtain ⟨a0, a1, a2, a3, a4, a5, ea, ⟨A0, A1, A2, A3, A4, A5⟩, va⟩ := dig_form h0 h1
  have up : ∀ u : Int, 0 ≤ u → u < 4294967296 → u % 2 ^ (s + 1) = 0 → u + 2 ^ s < 4294967296 := by
    intro u u0 u1 um
    obtain ⟨v, hv⟩ : ∃ v, u = 2 ^ (s + 1) * v := ⟨_, (Int.mul_ediv_cancel' (Int.dvd_of_emod_eq_zero um)).symm⟩
    have hlt : v < 2 ^ (31 - s) := by
      rcases Int.lt_or_le v (2 ^ (31 - s)) with g | g
      · exact g
      · have := Int.mul_le_mul_of_nonneg_left g (show (0 : Int) ≤ 2 ^ (s + 1) by omega)
        omega
    have := Int.mul_le_mul_of_nonneg_left (show v + 1 ≤ 2 ^ (31 - s) by omega) (show (0 : Int) ≤ 2 ^ (s + 1) by omega)
    rw [Int.mul_add] at this
    omega
  have modz : ∀ (u rest z : Int), u + 4294967296 * rest = 2 ^ (s + 1) * z → u % 2 ^ (s + 1) = 0 := by
    intro u rest z e
    have : u = 2 ^ (s + 1) * (z - 2 ^ (31 - s) * rest) := by rw [Int.mul_sub, ← Int.mul_assoc, ← hs1]; omega
    rw [this]; exact Int.mul_emod_right _ _
  rcases hq with e | e | e | e | e | e <;> subst e
  · have hpw : (2 : Int) ^ (32 * 0 + s + 1) = 1 * 2 ^ (s + 1) := by rw [Nat.add_assoc, Int.pow_add]; rfl
    have hpw2 : (2 : Int) ^ (32 * 0 + s) = 1 * 2 ^ s := by rw [Int.pow_add]; rfl
    have hN : a0 + 4294967296 * (a1 + 4294967296 * (a2 + 4294967296 * (a3 + 4294967296 * (a4 + 4294967296 * (a5))))) = 2 ^ (s + 1) * w := by
      rw [hpw, Int.mul_assoc] at hw
      generalize 2 ^ (s + 1) * w = W at *
      omega
    have hz := modz _ _ _ hN
    refine ⟨a0, by rw [ea]; rfl, A0, hz, ?_⟩
    rw [ea, hpw2]
    show [a0 + 2 ^ s, a1, a2, a3, a4, a5] = _
    exact (dig_of (a := N + 1 * 2 ^ s) ⟨⟨by omega, up a0 A0.1 A0.2 hz⟩, A1, A2, A3, A4, A5⟩ (by rw [va]; omega)).symm
  · have hpw : (2 : Int) ^ (32 * 1 + s + 1) = 4294967296 * 2 ^ (s + 1) := by rw [Nat.add_assoc, Int.pow_add]; rfl
    have hpw2 : (2 : Int) ^ (32 * 1 + s) = 4294967296 * 2 ^ s := by rw [Int.pow_add]; rfl
    have hN : a1 + 4294967296 * (a2 + 4294967296 * (a3 + 4294967296 * (a4 + 4294967296 * (a5)))) = 2 ^ (s + 1) * w := by
      rw [hpw, Int.mul_assoc] at hw
      generalize 2 ^ (s + 1) * w = W at *
      omega
    have hz := modz _ _ _ hN
    refine ⟨a1, by rw [ea]; rfl, A1, hz, ?_⟩
    rw [ea, hpw2]
    show [a0, a1 + 2 ^ s, a2, a3, a4, a5] = _
    exact (dig_of (a := N + 4294967296 * 2 ^ s) ⟨A0, ⟨by omega, up a1 A1.1 A1.2 hz⟩, A2, A3, A4, A5⟩ (by rw [va]; omega)).symm
  · have hpw : (2 : Int) ^ (32 * 2 + s + 1) = 18446744073709551616 * 2 ^ (s + 1) := by rw [Nat.add_assoc, Int.pow_add]; rfl
    have hpw2 : (2 : Int) ^ (32 * 2 + s) = 18446744073709551616 * 2 ^ s := by rw [Int.pow_add]; rfl
    have hN : a2 + 4294967296 * (a3 + 4294967296 * (a4 + 4294967296 * (a5))) = 2 ^ (s + 1) * w := by
      rw [hpw, Int.mul_assoc] at hw
      generalize 2 ^ (s + 1) * w = W at *
      omega
    have hz := modz _ _ _ hN
    refine ⟨a2, by rw [ea]; rfl, A2, hz, ?_⟩
    rw [ea, hpw2]
    show [a0, a1, a2 + 2 ^ s, a3, a4, a5] = _
    exact (dig_of (a := N + 18446744073709551616 * 2 ^ s) ⟨A0, A1, ⟨by omega, up a2 A2.1 A2.2 hz⟩, A3, A4, A5⟩ (by rw [va]; omega)).symm
  · have hpw : (2 : Int) ^ (32 * 3 + s + 1) = 79228162514264337593543950336 * 2 ^ (s + 1) := by rw [Nat.add_assoc, Int.pow_add]; rfl
    have hpw2 : (2 : Int) ^ (32 * 3 + s) = 79228162514264337593543950336 * 2 ^ s := by rw [Int.pow_add]; rfl
    have hN : a3 + 4294967296 * (a4 + 4294967296 * (a5)) = 2 ^ (s + 1) * w := by
      rw [hpw, Int.mul_assoc] at hw
      generalize 2 ^ (s + 1) * w = W at *
      omega
    have hz := modz _ _ _ hN
    refine ⟨a3, by rw [ea]; rfl, A3, hz, ?_⟩
    rw [ea, hpw2]
    show [a0, a1, a2, a3 + 2 ^ s, a4, a5] = _
    exact (dig_of (a := N + 79228162514264337593543950336 * 2 ^ s) ⟨A0, A1, A2, ⟨by omega, up a3 A3.1 A3.2 hz⟩, A4, A5⟩ (by rw [va]; omega)).symm
  · have hpw : (2 : Int) ^ (32 * 4 + s + 1) = 340282366920938463463374607431768211456 * 2 ^ (s + 1) := by rw [Nat.add_assoc, Int.pow_add]; rfl
    have hpw2 : (2 : Int) ^ (32 * 4 + s) = 340282366920938463463374607431768211456 * 2 ^ s := by rw [Int.pow_add]; rfl
    have hN : a4 + 4294967296 * (a5) = 2 ^ (s + 1) * w := by
      rw [hpw, Int.mul_assoc] at hw
      generalize 2 ^ (s + 1) * w = W at *
      omega
    have hz := modz _ _ _ hN
    refine ⟨a4, by rw [ea]; rfl, A4, hz, ?_⟩
    rw [ea, hpw2]
    show [a0, a1, a2, a3, a4 + 2 ^ s, a5] = _
    exact (dig_of (a := N + 340282366920938463463374607431768211456 * 2 ^ s) ⟨A0, A1, A2, A3, ⟨by omega, up a4 A4.1 A4.2 hz⟩, A5⟩ (by rw [va]; omega)).symm
  · have hpw : (2 : Int) ^ (32 * 5 + s + 1) = 1461501637330902918203684832716283019655932542976 * 2 ^ (s + 1) := by rw [Nat.add_assoc, Int.pow_add]; rfl
    have hpw2 : (2 : Int) ^ (32 * 5 + s) = 1461501637330902918203684832716283019655932542976 * 2 ^ s := by rw [Int.pow_add]; rfl
    have hN : a5 + 4294967296 * (0) = 2 ^ (s + 1) * w := by
      rw [hpw, Int.mul_assoc] at hw
      generalize 2 ^ (s + 1) * w = W at *
      omega
    have hz := modz _ _ _ hN
    refine ⟨a5, by rw [ea]; rfl, A5, hz, ?_⟩
    rw [ea, hpw2]
    show [a0, a1, a2, a3, a4, a5 + 2 ^ s] = _
    exact (dig_of (a := N + 1461501637330902918203684832716283019655932542976 * 2 ^ s) ⟨A0, A1, A2, A3, A4, ⟨by omega, up a5 A5.1 A5.2 hz⟩⟩ (by rw [va]; omega)).symm
/-- One bit of the division. -/
theorem divide_loop (a b : Int) (ha : 0 ≤ a) (ha1 : a < 6277101735386680763835789423207666416102355444464034512896) (hb : 0 < b) (hb1 : b ≤ 3138550867693340381917894711603833208051177722232017256448) (j : Nat) : ∀ Q R : Int, j ≤ 192 → 0 ≤ Q → 0 ≤ R → R < b → a / 2 ^ j = b * Q + R →
    Ev (fun k => computusref01_divide.l0 k (dig a) (dig b) (dig (Q * 2 ^ j)) (dig R) ((j : Int) - 1)) (dig (a / b), dig (a % b)) := by
  induction j with
  | zero =>
    intro Q R hj hQ hR hRb he
    rw [Int.pow_zero, Int.ediv_one] at he
    have h := (Int.ediv_emod_unique (a := a) (b := b) (r := R) (q := Q) hb).2 ⟨by omega, hR, hRb⟩
    refine Ev.at1 fun k => ?_
    simp only [computusref01_divide.l0]
    rw [if_neg (by omega), h.1, h.2, Int.pow_zero, Int.mul_one]
  | succ n ih =>
    intro Q R hj hQ hR hRb he
    have hpn := pow_pos' n
    have hp1 := pow_pos' (n + 1)
    have hs1 : (2 : Int) ^ (n + 1) = 2 ^ n * 2 := Int.pow_succ _ _
    -- the next bit
    have hbit : a / 2 ^ n = 2 * (a / 2 ^ (n + 1)) + a / 2 ^ n % 2 := by
      have e : a / 2 ^ (n + 1) = a / 2 ^ n / 2 := by rw [hs1, Int.ediv_ediv_of_nonneg (by omega)]
      rw [e]; omega
    obtain ⟨u, hu, ub, hub⟩ := rd_bit a n (by omega)
    obtain ⟨c, hc⟩ : ∃ c, a / 2 ^ n % 2 = c := ⟨_, rfl⟩
    have hc01 : 0 ≤ c ∧ c ≤ 1 := by omega
    rw [hc] at hbit hub
    -- the bits of the quotient
    have hQ1 : Q * 2 ^ (n + 1) < 6277101735386680763835789423207666416102355444464034512896 := by
      have e := Int.mul_ediv_add_emod a (2 ^ (n + 1))
      have g := Int.emod_nonneg a (Int.ne_of_gt hp1)
      have h1 : Q ≤ b * Q := by
        have := Int.mul_le_mul_of_nonneg_right (show (1 : Int) ≤ b by omega) hQ
        omega
      have h2 : Q ≤ a / 2 ^ (n + 1) := by omega
      have h3 := Int.mul_le_mul_of_nonneg_left h2 (show (0 : Int) ≤ 2 ^ (n + 1) by omega)
      rw [Int.mul_comm Q]; omega
    have hQ0 : 0 ≤ Q * 2 ^ (n + 1) := Int.mul_nonneg hQ (by omega)
    obtain ⟨v, hv, vb, vm, vset⟩ := set_bit (Q * 2 ^ (n + 1)) n (by omega) hQ0 hQ1 (Int.mul_emod_left _ _)
    have hidx : wrap64 (Int.tdiv ((n + 1 : Nat) - 1 : Int) 32) = (n : Int) / 32 := by
      rw [show ((n + 1 : Nat) - 1 : Int) = (n : Int) by omega, td_pos (by omega), w64 (by omega) (by omega)]
    have hsh : IntKind.u64.wrap (Int.tmod ((n + 1 : Nat) - 1 : Int) 32) = ((n % 32 : Nat) : Int) := by
      rw [show ((n + 1 : Nat) - 1 : Int) = (n : Int) by omega, tm_pos (by omega), u64w (by omega) (by omega)]; omega
    have hn32 : n % 32 < 32 := Nat.mod_lt _ (by omega)
    have hshr : ∀ x : Int, shr .u64 x ((n % 32 : Nat) : Int) = x / 2 ^ (n % 32) := fun x => by
      unfold shr; rw [Int.toNat_natCast, Nat.min_eq_left (by show n % 32 ≤ 64; omega)]
    have hshl : shl .u64 1 ((n % 32 : Nat) : Int) = 2 ^ (n % 32) := by
      unfold shl; rw [Int.toNat_natCast, Nat.min_eq_left (by show n % 32 ≤ 64; omega), Int.one_mul, u64w]
      · have := pow_pos' (n % 32); omega
      · have : (2 : Int) ^ (n % 32) ≤ 2 ^ 31 := by exact_mod_cast Nat.pow_le_pow_right (by decide) (show n % 32 ≤ 31 by omega)
        omega
    have hand : Go.bits .and .u64 (u / 2 ^ (n % 32)) 1 = c := by
      have h1 := Int.ediv_le_self (2 ^ (n % 32)) ub.1
      have h0 := Int.ediv_nonneg ub.1 (b := 2 ^ (n % 32)) (by have := pow_pos' (n % 32); omega)
      rw [show (1 : Int) = 2 ^ 1 - 1 from rfl, bits_mask .u64 64 (by decide) wraps_u64 1 (by decide) _ h0 (by omega), ← hub]; rfl
    -- the rest, twice, and the bit
    have hRr : 2 * R + c < 6277101735386680763835789423207666416102355444464034512896 := by omega
    have hset0 : ∀ l, l = dig (R + R) → l.set (0 : Int).toNat (Go.bits .or .u64 (rd l 0) c) = dig (2 * R + c) := by
      intro l hl
      subst hl
      obtain ⟨a0, a1, a2, a3, a4, a5, ea, ⟨A0, A1, A2, A3, A4, A5⟩, va⟩ := dig_form (a := R + R) (by omega) (by omega)
      rw [ea]
      show [Go.bits .or .u64 a0 c, a1, a2, a3, a4, a5] = _
      rw [orj 1 (by omega) A0.1 (by show a0 % 2 = 0; omega) (by omega) hc01.1 (by show c < 2; omega)]
      exact (dig_of (a := 2 * R + c) ⟨by omega, A1, A2, A3, A4, A5⟩ (by omega)).symm
    refine Ev.succ ?_
    simp only [computusref01_divide.l0]
    refine Ev.pos (by omega) ?_
    refine Ev.bind (add_ev hR hR (by omega)) ?_
    rw [hidx, hsh]
    refine Ev.pos (by rw [dig_length]; decide) ?_
    refine Ev.pos (by omega) ?_
    refine Ev.pos (by rw [dig_length]; omega) ?_
    refine Ev.pos (by omega) ?_
    rw [hu, hshr, hand, hset0 _ rfl, hshl, hv]
    rw [orj (n % 32 + 1) (by omega) vb.1 vm (by omega) (by have := pow_pos' (n % 32); omega) (by have := pow_pos' (n % 32); rw [Int.pow_succ]; omega), vset, show (((n + 1 : Nat) : Int) - 1 - 1) = (n : Int) - 1 by omega, w64 (x := (n : Int) - 1) (by omega) (by omega)]
    refine Ev.bind0 rfl ?_
    refine Ev.bind (cmp_ev (by omega) hRr (by omega) (by omega)) ?_
    by_cases hg : b ≤ 2 * R + c
    · have : sgn (2 * R + c) b ≥ 0 := by unfold sgn; split <;> omega
      simp only [if_pos this]
      refine Ev.bind (less_ev hRr (by omega) hg) ?_
      refine Ev.pos (by rw [dig_length]; omega) ?_
      have e : Q * 2 ^ (n + 1) + 2 ^ n = (2 * Q + 1) * 2 ^ n := by rw [hs1, Int.add_mul, Int.one_mul, Int.mul_comm 2 Q, Int.mul_assoc, Int.mul_comm 2]
      rw [e]
      refine ih (2 * Q + 1) (2 * R + c - b) (by omega) (by omega) (by omega) (by omega) ?_
      have em : b * (2 * Q + 1) = 2 * (b * Q) + b := by rw [Int.mul_add, Int.mul_one, Int.mul_left_comm]
      rw [hbit, he, em]; omega
    · have : ¬ sgn (2 * R + c) b ≥ 0 := by unfold sgn; rw [if_pos (by omega)]; omega
      simp only [if_neg this]
      have e : Q * 2 ^ (n + 1) = (2 * Q) * 2 ^ n := by rw [hs1, Int.mul_comm 2 Q, Int.mul_assoc, Int.mul_comm 2]
      rw [e]
      refine ih (2 * Q) (2 * R + c) (by omega) (by omega) (by omega) (by omega) ?_
      have em : b * (2 * Q) = 2 * (b * Q) := Int.mul_left_comm _ _ _
      rw [hbit, he, em]; omega
end Go.Proofs.Ytkongoedgngfhaa.Civ
namespace Go.Proofs.Ytkongoedgngfhaa.Civ
set_option linter.unusedVariables false
set_option linter.unusedSimpArgs false
open Go.RowKit Go.Proofs.YtkongoedgngfhaaW.PrintWords Go.Proofs.YtkongoedgngfhaaW.PrintLast Go.Proofs.YtkongoedgngfhaaW.PrintMore Go.Proofs.Ytkongoedgngfhaa.P
theorem divide_ev (a b : Int) (ha : 0 ≤ a) (ha1 : a < 6277101735386680763835789423207666416102355444464034512896) (hb : 0 < b) (hb1 : b ≤ 3138550867693340381917894711603833208051177722232017256448) :
    Ev (fun k => computusref01_divide.f k (dig a) (dig b)) (dig (a / b), dig (a % b)) := by
  unfold computusref01_divide.f
  refine Ev.pos (by decide) ?_
  have h := divide_loop a b ha ha1 hb hb1 192 0 0 (by omega) (by omega) (by omega) hb (by
    have : a / 2 ^ 192 = 0 := Int.ediv_eq_zero_of_lt ha ha1
    rw [this]; simp)
  exact h
theorem fl_signs1 {x y : Int} (hy : y ≠ 0) : fl x y = if (ng x != ng y) = true then (if ab x % ab y = 0 then -(ab x / ab y) else -(ab x / ab y) - 1) else ab x / ab y := by
  have h := fl_signs (a := x) (b := 1) (c := y) rfl rfl hy
  rw [Int.mul_one, ab_pos (a := 1) (by omega), Int.mul_one] at h
  rw [h]
  have e : (((decide (x < 0)) != (decide ((1 : Int) < 0))) != (decide (y < 0))) = (ng x != ng y) := by
    unfold ng; rw [show decide ((1 : Int) < 0) = false from rfl]; cases decide (x < 0) <;> cases decide (y < 0) <;> rfl
  rw [e]
theorem over_ev {x y : Int} (hx : Half x) (hy : Half y) (h0 : y ≠ 0) : Ev (fun k => computusref01_Over.f k (ng x) (dg x) (ng y) (dg y)) (ng (fl x y), dg (fl x y)) := by
  have bx := ab_half hx
  have by_ := ab_half hy
  have hD : 0 < ab y := by have := ab_zero (x := y); omega
  have hq0 : 0 ≤ ab x / ab y := Int.ediv_nonneg bx.1 (by omega)
  have hq1 : ab x / ab y ≤ ab x := Int.ediv_le_self _ bx.1
  have hr0 := Int.emod_nonneg (ab x) (Int.ne_of_gt hD)
  have hr1 := Int.emod_lt_of_pos (ab x) hD
  have neg_ab : ∀ P : Int, 0 ≤ P → ab (-P) = P := fun P h => by unfold ab; split <;> omega
  unfold computusref01_Over.f
  refine Ev.bind (divide_ev (ab x) (ab y) bx.1 (by omega) hD by_.2) ?_
  have hf := fl_signs1 (x := x) h0
  unfold dg at *
  by_cases g : (ng x != ng y) = true
  · rw [if_pos g] at hf
    simp only [if_pos g]
    refine Ev.bind (zero_ev hr0 (by omega)) ?_
    refine Ev.succ ?_
    simp only [computusref01_Over.j0, if_pos g]
    by_cases z : ab x % ab y = 0
    · rw [if_pos z] at hf
      rw [decide_eq_true z, hf, neg_ab _ hq0]
      refine Ev.neg (by simp) ?_
      refine Ev.bind (zero_ev hq0 (by omega)) ?_
      have : (!decide (ab x / ab y = 0)) = ng (-(ab x / ab y)) := by
        by_cases w : ab x / ab y = 0
        · rw [w]; rfl
        · rw [decide_eq_false w, ng_true (by omega)]; rfl
      rw [this]; exact Ev.now _
    · rw [if_neg z] at hf
      rw [decide_eq_false z, hf, show -(ab x / ab y) - 1 = -(ab x / ab y + 1) by omega, neg_ab _ (by omega), ng_true (by omega)]
      refine Ev.pos (by simp) ?_
      rw [of_eq 1 (by unfold I64; omega)]
      refine Ev.bind0 rfl ?_
      refine Ev.bind (add_ev hq0 (by decide) (show ab x / ab y + ab 1 < _ by rw [ab_pos (a := 1) (by omega)]; omega)) ?_
      rw [ab_pos (a := 1) (by omega)]
      refine Ev.bind (zero_ev (by omega) (by omega)) ?_
      rw [decide_eq_false (by omega)]
      exact Ev.now _
  · rw [if_neg g] at hf
    simp only [if_neg g]
    refine Ev.succ ?_
    simp only [computusref01_Over.j0, if_neg g]
    refine Ev.neg (by simp) ?_
    rw [hf, ng_false (by omega), ab_pos hq0]
    exact Ev.now _
theorem fl_half {x y : Int} (hx : Half x) (h0 : y ≠ 0) : Half (fl x y) := by
  have bx := ab_half hx
  have hD : 0 < ab y := by have := ab_zero (x := y); unfold ab at *; split at * <;> omega
  have hq0 : 0 ≤ ab x / ab y := Int.ediv_nonneg bx.1 (by omega)
  have hq1 : ab x / ab y ≤ ab x := Int.ediv_le_self _ bx.1
  rw [fl_signs1 h0]
  split
  · split
    · unfold Half; omega
    · rename_i z
      have e := Int.mul_ediv_add_emod (ab x) (ab y)
      have hr0 := Int.emod_nonneg (ab x) (Int.ne_of_gt hD)
      have hr1 := Int.emod_lt_of_pos (ab x) hD
      have h3 : ab x / ab y ≤ ab y * (ab x / ab y) := by
        have := Int.mul_le_mul_of_nonneg_right (show (1 : Int) ≤ ab y by omega) hq0
        omega
      unfold Half; omega
  · unfold Half; omega
theorem rdiv64_ev (a b : Int) (ha : I64 a) (hb : I64 b) (h0 : b ≠ 0) : Ev (fun k => computusref01_Div.f k a b) (out (fl a b)) := by
  unfold computusref01_Div.f
  rw [of_eq a ha, of_eq b hb]
  refine Ev.neg h0 ?_
  exact Ev.bind0 rfl (Ev.bind0 rfl (Ev.bind (over_ev (half_i64 ha) (half_i64 hb) h0) (Ev.bind (small_ev (half_wide (fl_half (half_i64 ha) h0))) (Ev.now _))))
end Go.Proofs.Ytkongoedgngfhaa.Civ
namespace Go.Proofs.Ytkongoedgngfhaa.Civ
set_option linter.unusedVariables false
set_option linter.unusedSimpArgs false
open Go.RowKit Go.Proofs.YtkongoedgngfhaaW.PrintWords Go.Proofs.YtkongoedgngfhaaW.PrintLast Go.Proofs.YtkongoedgngfhaaW.PrintMore Go.Proofs.Ytkongoedgngfhaa.P
theorem rten_ev {k : Int} (h : 0 ≤ k ∧ k ≤ 9) : Ev (fun n => computusref04_ten.f n k) (p10 k) := by
  refine Ev.of (computusref04_ten.mono k) (k := 12) ?_
  rcases ten_cases h with rfl | rfl | rfl | rfl | rfl | rfl | rfl | rfl | rfl | rfl <;> decide +kernel
theorem p10_even {k : Int} (h : 1 ≤ k ∧ k ≤ 9) : ∃ u, p10 k = 2 * u ∧ 5 ≤ u ∧ u ≤ 500000000 := by
  have : k = 1 ∨ k = 2 ∨ k = 3 ∨ k = 4 ∨ k = 5 ∨ k = 6 ∨ k = 7 ∨ k = 8 ∨ k = 9 := by omega
  rcases this with rfl | rfl | rfl | rfl | rfl | rfl | rfl | rfl | rfl
  · exact ⟨5, by decide, by decide, by decide⟩
  · exact ⟨50, by decide, by decide, by decide⟩
  · exact ⟨500, by decide, by decide, by decide⟩
  · exact ⟨5000, by decide, by decide, by decide⟩
  · exact ⟨50000, by decide, by decide, by decide⟩
  · exact ⟨500000, by decide, by decide, by decide⟩
  · exact ⟨5000000, by decide, by decide, by decide⟩
  · exact ⟨50000000, by decide, by decide, by decide⟩
  · exact ⟨500000000, by decide, by decide, by decide⟩
/-- The nearest whole part; halves go away from zero. -/
def near (n U : Int) : Int := if U ≤ 2 * Int.tmod n U then Int.tdiv n U + 1 else if 2 * Int.tmod n U ≤ -U then Int.tdiv n U - 1 else Int.tdiv n U
def rndD (n s t : Int) : Int × Int × Int := if DOk s ∧ DOk t then (if s ≤ t then tox n s t else (near n (p10 (s - t)), t, 0)) else (0, 0, 1)
theorem tdiv_bd {n u : Int} (hn : I64 n) (h5 : 5 ≤ u) : -1000000000000000000 ≤ Int.tdiv n (2 * u) ∧ Int.tdiv n (2 * u) ≤ 1000000000000000000 := by
  unfold I64 at hn
  have key : ∀ m : Int, 0 ≤ m → m ≤ 9223372036854775808 → 0 ≤ m / (2 * u) ∧ m / (2 * u) ≤ 1000000000000000000 := fun m h0 h1 => by
    refine ⟨Int.ediv_nonneg h0 (by omega), ?_⟩
    have : m / (2 * u) ≤ m / 10 := by
      rw [Int.le_ediv_iff_mul_le (by omega)]
      have e := Int.mul_ediv_add_emod m (2 * u)
      have e2 := Int.emod_nonneg m (b := 2 * u) (by omega)
      have e3 : 0 ≤ m / (2 * u) := Int.ediv_nonneg h0 (by omega)
      have e4 : m / (2 * u) * 10 ≤ m / (2 * u) * (2 * u) := Int.mul_le_mul_of_nonneg_left (by omega) e3
      rw [Int.mul_comm (m / (2 * u)) (2 * u)] at e4
      omega
    omega
  rcases Int.le_total 0 n with h | h
  · rw [td_pos h]; have := key n h (by omega); omega
  · rw [td_neg h]; have := key (-n) (by omega) (by omega); omega
theorem tdiv_two {u : Int} (h : 5 ≤ u) : Int.tdiv (2 * u) 2 = u := by rw [td_pos (by omega)]; omega
theorem rnd_mid {n U u : Int} (hn : I64 n) (e : U = 2 * u) (h5 : 5 ≤ u) (h9 : u ≤ 500000000) : ∃ q r, q = Int.tdiv n U ∧ r = Int.tmod n U ∧ (-1000000000000000000 ≤ q ∧ q ≤ 1000000000000000000) ∧ (-U < r ∧ r < U) := by
  refine ⟨_, _, rfl, rfl, ?_, tmod_bd n (by omega)⟩
  rw [e]; exact tdiv_bd hn h5
theorem round_low {n s t : Int} (k : Nat) (hn : I64 n) (hs : DOk s) (ht : DOk t) (h : ¬ s ≤ t) : dec_Round.j0 (k + 1) t false n s = some (near n (p10 (s - t)), t, 0) := by
  unfold DOk at hs ht
  simp only [dec_Round.j0, Bool.false_eq_true, if_false]
  rw [if_neg (by omega), w64 (x := s - t) (by omega) (by omega), ten_eq (by omega)]
  simp only [Option.bind_some]
  obtain ⟨u, e, h5, h9⟩ := p10_even (k := s - t) (by omega)
  obtain ⟨q, r, hq, hr, bq, br⟩ := rnd_mid hn e h5 h9
  rw [if_neg (by omega)]
  unfold near
  rw [← hq, ← hr]
  generalize p10 (s - t) = U at *
  rw [w64 (x := -r) (by omega) (by omega), w64 (x := q) (by omega) (by omega), w64 (x := q + 1) (by omega) (by omega), w64 (x := q - 1) (by omega) (by omega)]
  have hm : mx r (-r) = if 0 ≤ r then r else -r := by unfold mx; split <;> split <;> omega
  rw [hm]
  by_cases h0 : 0 ≤ r
  · rw [if_pos h0, w64 (x := 2 * r) (by omega) (by omega)]
    by_cases h1 : U ≤ 2 * r
    · rw [if_pos (by omega), if_pos (by omega), if_pos h1]
    · rw [if_neg (by omega), if_neg h1, if_neg (by omega)]
  · rw [if_neg h0, w64 (x := 2 * -r) (by omega) (by omega)]
    by_cases h1 : 2 * r ≤ -U
    · rw [if_pos (by omega), if_neg (by omega), if_neg (by omega), if_pos h1]
    · rw [if_neg (by omega), if_neg (by omega), if_neg h1]
theorem round_ev {n s t : Int} (hn : I64 n) : Ev (fun k => dec_Round.f k n s t) (rndD n s t) := by
  unfold dec_Round.f rndD
  refine Ev.bind0 (dcright_eq n s) ?_
  by_cases h1 : DOk s
  · refine Ev.pos (decide_eq_true h1) ?_
    by_cases h2 : DOk t
    · have h12 : DOk s ∧ DOk t := ⟨h1, h2⟩
      rw [if_pos h12]
      have h2' := h2
      unfold DOk at h2'
      refine Ev.neg (by omega) ?_
      rw [decide_eq_false (by omega)]
      by_cases h3 : s ≤ t
      · rw [if_pos h3]
        refine Ev.succ ?_
        simp only [dec_Round.j0, Bool.false_eq_true, if_false]
        refine Ev.pos h3 (Ev.bind (Ev.at1 fun k => to_eq k hn h1 h2 h3) ?_)
        exact Ev.now _
      · rw [if_neg h3]
        exact Ev.at1 fun k => round_low k hn h1 h2 h3
    · have h12 : ¬ (DOk s ∧ DOk t) := fun f => h2 f.2
      rw [if_neg h12]
      by_cases h0 : t < 0
      · refine Ev.pos h0 (Ev.succ ?_)
        simp only [dec_Round.j0, if_true]
        exact Ev.now _
      · refine Ev.neg h0 ?_
        rw [decide_eq_true (by unfold DOk at h2; omega)]
        refine Ev.succ ?_
        simp only [dec_Round.j0, if_true]
        exact Ev.now _
  · have h12 : ¬ (DOk s ∧ DOk t) := fun f => h1 f.1
    rw [if_neg h12]
    refine Ev.neg (by rw [decide_eq_false h1]; simp) (Ev.succ ?_)
    simp only [dec_Round.j0, if_true]
    exact Ev.now _
theorem p10_word (k : Int) : -18446744073709551615 ≤ p10 k ∧ p10 k ≤ 18446744073709551615 := by have := p10_bd k; omega
/-- The reference's number at another scale, as a wide one. -/
theorem rat_ev {n s t : Int} (hn : I64 n) (hs : DOk s) (ht : DOk t) (h : s ≤ t) : Ev (fun k => computusref04_at.f k n s t) (ng (n * p10 (t - s)), dg (n * p10 (t - s))) := by
  unfold computusref04_at.f
  unfold DOk at hs ht
  rw [w64 (x := t - s) (by omega) (by omega)]
  refine Ev.bind0 (of_eq n hn) (Ev.bind (rten_ev (by omega)) (Ev.bind0 (of_eq _ (i64_p10 _)) (Ev.bind (times_ev (i64_word hn) (p10_word _)) (Ev.now _))))
theorem rround_low {n s t : Int} (hn : I64 n) (hs : DOk s) (ht : DOk t) (h : ¬ s ≤ t) : Ev (fun k => computusref04_Round.j0 (k + 1) t false n s) (near n (p10 (s - t)), t, 0) := by
  unfold DOk at hs ht
  simp only [computusref04_Round.j0, Bool.false_eq_true, if_false]
  refine Ev.neg (by omega) ?_
  rw [w64 (x := s - t) (by omega) (by omega)]
  refine Ev.bind (rten_ev (by omega)) ?_
  obtain ⟨u, e, h5, h9⟩ := p10_even (k := s - t) (by omega)
  obtain ⟨q, r, hq, hr, bq, br⟩ := rnd_mid hn e h5 h9
  refine Ev.neg (by omega) ?_
  unfold near
  rw [← hq, ← hr]
  generalize p10 (s - t) = U at *
  have ht2 : Int.tdiv U 2 = u := by rw [e]; exact tdiv_two h5
  rw [ht2, w64 (x := u) (by omega) (by omega), w64 (x := -u) (by omega) (by omega), w64 (x := q) (by omega) (by omega), w64 (x := q + 1) (by omega) (by omega), w64 (x := q - 1) (by omega) (by omega)]
  by_cases h1 : U ≤ 2 * r
  · rw [if_pos h1]
    exact Ev.pos (by omega) (Ev.neg (by omega) (Ev.now _))
  · rw [if_neg h1]
    refine Ev.neg (by omega) ?_
    by_cases h2 : 2 * r ≤ -U
    · rw [if_pos h2]; exact Ev.pos (by omega) (Ev.now _)
    · rw [if_neg h2]; exact Ev.neg (by omega) (Ev.now _)
theorem rround_ev {n s t : Int} (hn : I64 n) : Ev (fun k => computusref04_Round.f k n s t) (rndD n s t) := by
  unfold computusref04_Round.f rndD
  refine Ev.bind0 (rdcright_eq n s) ?_
  by_cases h1 : DOk s
  · refine Ev.pos (decide_eq_true h1) ?_
    by_cases h2 : DOk t
    · have h12 : DOk s ∧ DOk t := ⟨h1, h2⟩
      rw [if_pos h12]
      have h2' := h2
      unfold DOk at h2'
      refine Ev.neg (by omega) ?_
      rw [decide_eq_false (by omega)]
      by_cases h3 : s ≤ t
      · rw [if_pos h3]
        refine Ev.succ ?_
        simp only [computusref04_Round.j0, Bool.false_eq_true, if_false]
        refine Ev.pos h3 (Ev.bind (rat_ev hn h1 h2 h3) (Ev.bind (small_ev (half_wide (half_mul hn (i64_p10 _)))) ?_))
        unfold tox
        by_cases g : I64 (n * p10 (t - s))
        · rw [out_in g, if_pos g]; exact Ev.pos rfl (Ev.now _)
        · rw [out_no g, if_neg g]; exact Ev.neg (by decide) (Ev.now _)
      · rw [if_neg h3]
        exact Ev.succ (rround_low hn h1 h2 h3)
    · have h12 : ¬ (DOk s ∧ DOk t) := fun f => h2 f.2
      rw [if_neg h12]
      by_cases h0 : t < 0
      · refine Ev.pos h0 (Ev.succ ?_)
        simp only [computusref04_Round.j0, if_true]
        exact Ev.now _
      · refine Ev.neg h0 ?_
        rw [decide_eq_true (by unfold DOk at h2; omega)]
        refine Ev.succ ?_
        simp only [computusref04_Round.j0, if_true]
        exact Ev.now _
  · have h12 : ¬ (DOk s ∧ DOk t) := fun f => h1 f.1
    rw [if_neg h12]
    refine Ev.neg (by rw [decide_eq_false h1]; simp) (Ev.succ ?_)
    simp only [computusref04_Round.j0, if_true]
    exact Ev.now _
theorem p10_pos (k : Int) : 0 < p10 k := by have := p10_bd k; omega
theorem floor_i64 {n : Int} (hn : I64 n) (k : Int) : I64 (n / p10 k) := ediv_i64 hn (p10_pos k)
def splD (n s : Int) : Int × Int := (n / p10 s, n % p10 s * p10 (9 - s))
theorem frac_bd (n : Int) {s : Int} (hs : DOk s) : 0 ≤ n % p10 s * p10 (9 - s) ∧ n % p10 s * p10 (9 - s) < 1000000000 := by
  have h0 := Int.emod_nonneg n (b := p10 s) (by have := p10_pos s; omega)
  have h1 := Int.emod_lt_of_pos n (p10_pos s)
  rcases ten_cases hs with rfl | rfl | rfl | rfl | rfl | rfl | rfl | rfl | rfl | rfl <;> simp [p10] at h0 h1 ⊢ <;> omega
theorem split_ev {n s : Int} (hn : I64 n) (hs : DOk s) : Ev (fun k => dec_Dec_split.f k n s) (splD n s) := by
  unfold dec_Dec_split.f
  have hp := p10_pos s
  refine Ev.bind0 (ten_eq hs) (Ev.bind (Ev.at1 fun k => div_eq k n _ hn (i64_p10 s) (by omega)) (Ev.bind0 (ten_eq hs) (Ev.bind0 (mod_eq n _ hn (i64_p10 s) (by omega)) ?_)))
  have hs' := hs
  unfold DOk at hs'
  rw [w64 (x := 9 - s) (by omega) (by omega)]
  refine Ev.bind0 (ten_eq (by omega)) (Ev.cast (Ev.now _) ?_)
  have hb := frac_bd n hs
  rw [fl_pos hp, md_pos hp, out_in (floor_i64 hn s)]
  show (n / p10 s, wrap64 (n % p10 s * p10 (9 - s))) = _
  rw [w64 (by omega) (by omega)]
  rfl
def flrD (n s : Int) : Int × Int := if DOk s then (n / p10 s, 0) else (0, 1)
theorem floor_ev {n s : Int} (hn : I64 n) : Ev (fun k => dec_Floor.f k n s) (flrD n s) := by
  unfold dec_Floor.f flrD
  refine Ev.bind0 (dcright_eq n s) ?_
  by_cases h : DOk s
  · rw [if_pos h]
    exact Ev.pos (decide_eq_true h) (Ev.bind (split_ev hn h) (Ev.now _))
  · rw [if_neg h]
    exact Ev.neg (by rw [decide_eq_false h]; simp) (Ev.now _)
theorem rfloor_ev {n s : Int} (hn : I64 n) : Ev (fun k => computusref04_Floor.f k n s) (flrD n s) := by
  unfold computusref04_Floor.f flrD
  refine Ev.bind0 (rdcright_eq n s) ?_
  by_cases h : DOk s
  · rw [if_pos h]
    have hp := p10_pos s
    refine Ev.pos (decide_eq_true h) (Ev.bind (rten_ev h) (Ev.bind (rdiv64_ev n _ hn (i64_p10 s) (by omega)) ?_))
    rw [fl_pos hp, out_in (floor_i64 hn s)]
    exact Ev.now _
  · rw [if_neg h]
    exact Ev.neg (by rw [decide_eq_false h]; simp) (Ev.now _)
def trimN : Nat → Int → Int → Int × Int
  | 0, n, s => (n, s)
  | d + 1, n, s => if n % 10 = 0 then trimN d (n / 10) (s - 1) else (n, s)
theorem tdiv_ten {n : Int} (hn : I64 n) (h : n % 10 = 0) : wrap64 (Int.tdiv n 10) = n / 10 ∧ I64 (n / 10) := by
  unfold I64 at *
  have e : Int.tdiv n 10 = n / 10 := by
    rcases Int.le_total 0 n with g | g
    · exact td_pos g
    · rw [td_neg g]; omega
  rw [e, w64 (by omega) (by omega)]
  omega
theorem trim_loop (d : Nat) : ∀ {n s : Int}, I64 n → s = d → d ≤ 9 → Ev (fun k => dec_Trim.l0 k n s) (trimN d n s) ∧ Ev (fun k => computusref04_Trim.l0 k n s) (trimN d n s) := by
  induction d with
  | zero =>
    intro n s hn hs hd
    refine ⟨Ev.succ ?_, Ev.succ ?_⟩
    · simp only [dec_Trim.l0]; exact Ev.neg (by omega) (Ev.now _)
    · simp only [computusref04_Trim.l0]
      exact Ev.bind0 (rdcright_eq n s) (Ev.pos (decide_eq_true (by unfold DOk; omega)) (Ev.neg (by omega) (Ev.now _)))
  | succ d ih =>
    intro n s hn hs hd
    have hz := tmod_zero_iff n (b := 10) (by decide)
    have hok : DOk s := by unfold DOk; omega
    by_cases h : n % 10 = 0
    · obtain ⟨e, hi⟩ := tdiv_ten hn h
      obtain ⟨i1, i2⟩ := ih (n := n / 10) (s := s - 1) hi (by omega) (by omega)
      have et : trimN (d + 1) n s = trimN d (n / 10) (s - 1) := by simp only [trimN, if_pos h]
      rw [et]
      refine ⟨Ev.succ ?_, Ev.succ ?_⟩
      · simp only [dec_Trim.l0]
        rw [e, w64 (x := s - 1) (by omega) (by omega)]
        exact Ev.pos (by omega) (Ev.pos (hz.2 h) i1)
      · simp only [computusref04_Trim.l0]
        rw [e, w64 (x := s - 1) (by omega) (by omega)]
        exact Ev.bind0 (rdcright_eq n s) (Ev.pos (decide_eq_true hok) (Ev.pos (by omega) (Ev.pos (hz.2 h) i2)))
    · have et : trimN (d + 1) n s = (n, s) := by simp only [trimN, if_neg h]
      rw [et]
      refine ⟨Ev.succ ?_, Ev.succ ?_⟩
      · simp only [dec_Trim.l0]
        exact Ev.pos (by omega) (Ev.neg (fun g => h (hz.1 g)) (Ev.now _))
      · simp only [computusref04_Trim.l0]
        exact Ev.bind0 (rdcright_eq n s) (Ev.pos (decide_eq_true hok) (Ev.pos (by omega) (Ev.neg (fun g => h (hz.1 g)) (Ev.now _))))
def trmD (n s : Int) : Int × Int := if DOk s then trimN s.toNat n s else (n, s)
theorem trim_ev {n s : Int} (hn : I64 n) : Ev (fun k => dec_Trim.f k n s) (trmD n s) := by
  unfold dec_Trim.f trmD
  refine Ev.bind0 (dcright_eq n s) ?_
  by_cases h : DOk s
  · rw [if_pos h]
    unfold DOk at h
    exact Ev.pos (decide_eq_true h) (trim_loop s.toNat hn (by omega) (by omega)).1
  · rw [if_neg h]
    exact Ev.neg (by rw [decide_eq_false h]; simp) (Ev.now _)
theorem rtrim_ev {n s : Int} (hn : I64 n) : Ev (fun k => computusref04_Trim.f k n s) (trmD n s) := by
  unfold computusref04_Trim.f trmD
  by_cases h : DOk s
  · rw [if_pos h]
    unfold DOk at h
    exact (trim_loop s.toNat hn (by omega) (by omega)).2
  · rw [if_neg h]
    refine Ev.succ ?_
    simp only [computusref04_Trim.l0]
    exact Ev.bind0 (rdcright_eq n s) (Ev.neg (by rw [decide_eq_false h]; simp) (Ev.now _))
/-- A nought taken off: the number is the same. -/
theorem spl_step {n s : Int} (hs : DOk s) (h1 : 1 ≤ s) (h : n % 10 = 0) : splD (n / 10) (s - 1) = splD n s := by
  unfold splD
  obtain ⟨m, rfl⟩ : ∃ m, n = 10 * m := ⟨n / 10, by omega⟩
  have : s = 1 ∨ s = 2 ∨ s = 3 ∨ s = 4 ∨ s = 5 ∨ s = 6 ∨ s = 7 ∨ s = 8 ∨ s = 9 := by unfold DOk at hs; omega
  rcases this with rfl | rfl | rfl | rfl | rfl | rfl | rfl | rfl | rfl <;> simp [p10] <;> constructor <;> omega
theorem spl_trim (d : Nat) : ∀ {n s : Int}, s = d → d ≤ 9 → splD (trimN d n s).1 (trimN d n s).2 = splD n s ∧ DOk (trimN d n s).2 := by
  induction d with
  | zero => intro n s hs hd; exact ⟨rfl, by unfold DOk trimN; simp only; omega⟩
  | succ d ih =>
    intro n s hs hd
    by_cases h : n % 10 = 0
    · have et : trimN (d + 1) n s = trimN d (n / 10) (s - 1) := by simp only [trimN, if_pos h]
      rw [et]
      obtain ⟨i1, i2⟩ := ih (n := n / 10) (s := s - 1) (by omega) (by omega)
      exact ⟨i1.trans (spl_step (by unfold DOk; omega) (by omega) h), i2⟩
    · have et : trimN (d + 1) n s = (n, s) := by simp only [trimN, if_neg h]
      rw [et]; exact ⟨rfl, by unfold DOk; simp only; omega⟩
theorem trim_i64 (d : Nat) : ∀ {n s : Int}, I64 n → I64 (trimN d n s).1 := by
  induction d with
  | zero => intro n s hn; exact hn
  | succ d ih =>
    intro n s hn
    by_cases h : n % 10 = 0
    · have et : trimN (d + 1) n s = trimN d (n / 10) (s - 1) := by simp only [trimN, if_pos h]
      rw [et]; exact ih (tdiv_ten hn h).2
    · have et : trimN (d + 1) n s = (n, s) := by simp only [trimN, if_neg h]
      rw [et]; exact hn
/-- How two numbers stand. -/
def ordD (n s m r : Int) : Int :=
  if DOk s ∧ DOk r then (if splD n s = splD m r then 0 else if n / p10 s = m / p10 r then (if (splD n s).2 < (splD m r).2 then -1 else 1) else if n / p10 s < m / p10 r then -1 else 1) else 0
theorem compare_eq (a b : Int) : cmp_Compare_int64.f a b = some (if a < b then -1 else if a > b then 1 else 0) := by
  unfold cmp_Compare_int64.f
  have e : ∀ x, cmp_isNaN_int64.f x = some false := fun x => by unfold cmp_isNaN_int64.f; simp
  rw [e, e]
  simp only [Option.bind_some, Bool.false_eq_true, if_false]
  repeat' split
  all_goals rfl
theorem cmpD_ev {n s m r : Int} (hn : I64 n) (hm : I64 m) : Ev (fun k => dec_Cmp.f k n s m r) (ordD n s m r) := by
  unfold dec_Cmp.f ordD
  refine Ev.bind0 (dcright_eq n s) ?_
  by_cases h1 : DOk s
  · refine Ev.pos (decide_eq_true h1) (Ev.bind0 (dcright_eq m r) (Ev.succ ?_))
    by_cases h2 : DOk r
    · have h12 : DOk s ∧ DOk r := ⟨h1, h2⟩
      rw [if_pos h12, decide_eq_true h2]
      simp only [dec_Cmp.j0, Bool.not_true, Bool.false_eq_true, if_false]
      refine Ev.bind (split_ev hn h1) (Ev.bind (split_ev hm h2) ?_)
      by_cases he : splD n s = splD m r
      · rw [if_pos he, he]
        exact Ev.pos (by simp) (Ev.now _)
      · rw [if_neg he]
        refine Ev.neg (fun g => he ?_) ?_
        · simp only [Bool.and_eq_true, beq_iff_eq] at g
          exact Prod.ext g.1 g.2
        · by_cases hf : n / p10 s = m / p10 r
          · rw [if_pos hf]
            refine Ev.pos hf (Ev.bind0 (compare_eq _ _) (Ev.cast (Ev.now _) ?_))
            by_cases hl : (splD n s).2 < (splD m r).2
            · rw [if_pos hl, if_pos hl]
            · have hne : (splD n s).2 ≠ (splD m r).2 := fun g => he (Prod.ext hf g)
              rw [if_neg hl, if_neg hl, if_pos (by omega)]
          · rw [if_neg hf]
            refine Ev.neg hf (Ev.bind0 (compare_eq _ _) (Ev.cast (Ev.now _) ?_))
            have e1 : (splD n s).1 = n / p10 s := rfl
            have e2 : (splD m r).1 = m / p10 r := rfl
            rw [e1, e2]
            by_cases hl : n / p10 s < m / p10 r
            · rw [if_pos hl, if_pos hl]
            · rw [if_neg hl, if_neg hl, if_pos (by omega)]
    · have h12 : ¬ (DOk s ∧ DOk r) := fun f => h2 f.2
      rw [if_neg h12, decide_eq_false h2]
      simp only [dec_Cmp.j0, Bool.not_false, if_true]
      exact Ev.now _
  · have h12 : ¬ (DOk s ∧ DOk r) := fun f => h1 f.1
    rw [if_neg h12]
    refine Ev.neg (by rw [decide_eq_false h1]; simp) (Ev.succ ?_)
    simp only [dec_Cmp.j0, if_true]
    exact Ev.now _
theorem trm_i64 {n s : Int} (hn : I64 n) : I64 (trmD n s).1 := by
  unfold trmD
  split
  · exact trim_i64 _ hn
  · exact hn
theorem trm_same (n s : Int) : ordD (trmD n s).1 (trmD n s).2 n s = 0 := by
  unfold trmD ordD
  by_cases h : DOk s
  · rw [if_pos h]
    have hs := h
    unfold DOk at h
    obtain ⟨a, b⟩ := spl_trim s.toNat (n := n) (s := s) (by omega) (by omega)
    have hh : DOk (trimN s.toNat n s).2 ∧ DOk s := ⟨b, hs⟩
    rw [if_pos hh, if_pos a]
  · have hh : ¬ (DOk s ∧ DOk s) := fun f => h f.1
    rw [if_neg h, if_neg hh]
end Go.Proofs.Ytkongoedgngfhaa.Civ
namespace Go.Proofs.Ytkongoedgngfhaa.Pure
set_option linter.unusedVariables false
set_option linter.unusedSimpArgs false
open Go.RowKit Go.Proofs.Ytkongoedgngfhaa.P Go.Proofs.YtkongoedgngfhaaW.PrintWords Go.Proofs.YtkongoedgngfhaaW.PrintLast Go.Proofs.Ytkongoedgngfhaa.Civ
theorem given_eqD (n s : Int) : computuslaw04_given.f n s = some (n, s) := rfl
theorem taken_eqD (n s : Int) : computuslaw04_taken.f n s = some (n, s) := rfl
theorem DecRounds : computuslaw04_DecRounds.Pure := by
  intro n s t hn _ _
  have hn := i64_of_wf hn
  refine Ev.rounds ?_
  unfold computuslaw04_DecRounds.f
  refine Ev.bind0 (given_eqD n s) (Ev.bind (round_ev hn) (Ev.bind (rround_ev hn) (Ev.bind0 (given_eqD n s) (Ev.bind (floor_ev hn) (Ev.bind (rfloor_ev hn) (Ev.bind0 (given_eqD n s) (Ev.bind (trim_ev hn) (Ev.bind0 (taken_eqD _ _) ?_))))))))
  refine Ev.pos (by simp) (Ev.pos rfl (Ev.pos rfl (Ev.pos rfl (Ev.bind0 (taken_eqD _ _) (Ev.bind (rtrim_ev hn) ?_)))))
  refine Ev.pos (by simp) (Ev.bind0 (given_eqD n s) (Ev.bind (cmpD_ev (trm_i64 hn) hn) ?_))
  exact Ev.pos (trm_same n s) known_end
end Go.Proofs.Ytkongoedgngfhaa.Pure
