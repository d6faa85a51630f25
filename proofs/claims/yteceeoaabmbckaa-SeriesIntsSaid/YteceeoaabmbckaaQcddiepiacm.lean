/- The reference's division, bit by bit, and the functions of whole numbers that lean on it. -/
import Derived.Test.YteceeoaabmbckaaQgbpkefpolb
import Derived.Test.YteceeoaabmbckaaQdboclfmcoc
import Derived.Test.YteceeoaabmbckaaQlnmfplnpif
import Derived.Test.YteceeoaabmbckaaQgpippedcej
import Derived.Test.YteceeoaabmbckaaQnfimnniaco
import Derived.Test.YteceeoaabmbckaaQmkdigojcmo
namespace Go.Proofs.Yteceeoaabmbckaa.Civ
set_option linter.unusedVariables false
set_option linter.unusedSimpArgs false
open Go.RowKit Go.Proofs.YteceeoaabmbckaaW.PrintWords Go.Proofs.YteceeoaabmbckaaW.PrintLast Go.Proofs.YteceeoaabmbckaaW.PrintMore Go.Proofs.Yteceeoaabmbckaa.P
theorem pow_pos' (s : Nat) : (0 : Int) < 2 ^ s := by exact_mod_cast Nat.two_pow_pos s
theorem pow_split (s : Nat) (h : s < 32) : (4294967296 : Int) = 2 ^ s * (2 * 2 ^ (31 - s)) := by
  have e : (4294967296 : Int) = 2 ^ 32 := rfl
  rw [e, ← Int.pow_succ', ← Int.pow_add]
  congr 1; omega
/-- A bit of a part is a bit of the number. -/
theorem part_bit (x : Int) (s : Nat) (h : s < 32) : x % 4294967296 / 2 ^ s % 2 = x / 2 ^ s % 2 := by
  have hp := pow_pos' s
  have e : x = x % 4294967296 + 2 ^ s * (2 * 2 ^ (31 - s) * (x / 4294967296)) := by
    rw [← Int.mul_assoc, ← pow_split s h]; omega
  have e2 : x / 2 ^ s = x % 4294967296 / 2 ^ s + 2 * 2 ^ (31 - s) * (x / 4294967296) := by
    conv => lhs; rw [e]
    exact Int.add_mul_ediv_left _ _ (Int.ne_of_gt hp)
  rw [e2, Int.mul_assoc]; omega
theorem low_div (a : Int) (L : Int) (hL : 0 < L) (s : Nat) : a / L / 2 ^ s = a / (L * 2 ^ s) := Int.ediv_ediv_of_nonneg (by omega)
theorem rd_bit (a : Int) (n : Nat) (h : n < 192) : ∃ u, rd (dig a) ((n : Int) / 32) = u ∧ (0 ≤ u ∧ u < 4294967296) ∧ u / 2 ^ (n % 32) % 2 = a / 2 ^ n % 2 := by
  have hs : n % 32 < 32 := Nat.mod_lt _ (by omega)
  have hn : n = 32 * (n / 32) + n % 32 := by omega
  have hq : n / 32 = 0 ∨ n / 32 = 1 ∨ n / 32 = 2 ∨ n / 32 = 3 ∨ n / 32 = 4 ∨ n / 32 = 5 := by omega
  have hi : (n : Int) / 32 = ((n / 32 : Nat) : Int) := by omega
  rw [hi]
  generalize n % 32 = s at *
  generalize n / 32 = q at *
  subst hn
  rw [Int.pow_add]
  rcases hq with e | e | e | e | e | e <;> subst e
  · exact ⟨a % 4294967296, rfl, part_bd _, by rw [part_bit _ _ hs]; simp⟩
  · exact ⟨a / 4294967296 % 4294967296, rfl, part_bd _, by rw [part_bit _ _ hs, low_div _ _ (by omega)]; rfl⟩
  · exact ⟨a / 4294967296 / 4294967296 % 4294967296, rfl, part_bd _, by rw [part_bit _ _ hs, show a / 4294967296 / 4294967296 = a / 18446744073709551616 by omega, low_div _ _ (by omega)]; rfl⟩
  · exact ⟨a / 4294967296 / 4294967296 / 4294967296 % 4294967296, rfl, part_bd _, by rw [part_bit _ _ hs, show a / 4294967296 / 4294967296 / 4294967296 = a / 79228162514264337593543950336 by omega, low_div _ _ (by omega)]; rfl⟩
  · exact ⟨a / 4294967296 / 4294967296 / 4294967296 / 4294967296 % 4294967296, rfl, part_bd _, by rw [part_bit _ _ hs, show a / 4294967296 / 4294967296 / 4294967296 / 4294967296 = a / 340282366920938463463374607431768211456 by omega, low_div _ _ (by omega)]; rfl⟩
  · exact ⟨a / 4294967296 / 4294967296 / 4294967296 / 4294967296 / 4294967296 % 4294967296, rfl, part_bd _, by rw [part_bit _ _ hs, show a / 4294967296 / 4294967296 / 4294967296 / 4294967296 / 4294967296 = a / 1461501637330902918203684832716283019655932542976 by omega, low_div _ _ (by omega)]; rfl⟩
/-- A bit that is not set is set. -/
theorem set_bit (N : Int) (n : Nat) (h : n < 192) (h0 : 0 ≤ N) (h1 : N < 6277101735386680763835789423207666416102355444464034512896) (hm : N % 2 ^ (n + 1) = 0) :
    ∃ u, rd (dig N) ((n : Int) / 32) = u ∧ (0 ≤ u ∧ u < 4294967296) ∧ u % 2 ^ (n % 32 + 1) = 0 ∧ (dig N).set ((n : Int) / 32).toNat (u + 2 ^ (n % 32)) = dig (N + 2 ^ n) := by
  have hs : n % 32 < 32 := Nat.mod_lt _ (by omega)
  have hn : n = 32 * (n / 32) + n % 32 := by omega
  have hq : n / 32 = 0 ∨ n / 32 = 1 ∨ n / 32 = 2 ∨ n / 32 = 3 ∨ n / 32 = 4 ∨ n / 32 = 5 := by omega
  have hi : (n : Int) / 32 = ((n / 32 : Nat) : Int) := by omega
  rw [hi]
  generalize n % 32 = s at *
  generalize n / 32 = q at *
  subst hn
  have hp := pow_pos' s
  have hP := pow_split s hs
  have hsucc : (2 : Int) ^ (s + 1) = 2 * 2 ^ s := Int.pow_succ' _ _
  have hs1 : (4294967296 : Int) = 2 ^ (s + 1) * 2 ^ (31 - s) := by rw [hsucc, Int.mul_comm 2, Int.mul_assoc]; exact hP
  obtain ⟨w, hw⟩ : ∃ w, N = 2 ^ (32 * q + s + 1) * w := ⟨_, (Int.mul_ediv_cancel' (Int.dvd_of_emod_eq_zero hm)).symm⟩
  obtain ⟨a0, a1, a2, a3, a4, a5, ea, ⟨A0, A1, A2, A3, A4, A5⟩, va⟩ := dig_form h0 h1
  have up : ∀ u : Int, 0 ≤ u → u < 4294967296 → u % 2 ^ (s + 1) = 0 → u + 2 ^ s < 4294967296 := by
    intro u u0 u1 um
    obtain ⟨v, hv⟩ : ∃ v, u = 2 ^ (s + 1) * v := ⟨_, (Int.mul_ediv_cancel' (Int.dvd_of_emod_eq_zero um)).symm⟩
    have hlt : v < 2 ^ (31 - s) := by
      rcases Int.lt_or_le v (2 ^ (31 - s)) with g | g
      · exact g
      · have := Int.mul_le_mul_of_nonneg_left g (show (0 : Int) ≤ 2 ^ (s + 1) by omega)
        omega
    have := Int.mul_le_mul_of_nonneg_left (show v + 1 ≤ 2 ^ (31 - s) by omega) (show (0 : Int) ≤ 2 ^ (s + 1) by omega)
    rw [Int.mul_add] at this
    omega
  have modz : ∀ (u rest z : Int), u + 4294967296 * rest = 2 ^ (s + 1) * z → u % 2 ^ (s + 1) = 0 := by
    intro u rest z e
    have : u = 2 ^ (s + 1) * (z - 2 ^ (31 - s) * rest) := by rw [Int.mul_sub, ← Int.mul_assoc, ← hs1]; omega
    rw [this]; exact Int.mul_emod_right _ _
  rcases hq with e | e | e | e | e | e <;> subst e
  · have hpw : (2 : Int) ^ (32 * 0 + s + 1) = 1 * 2 ^ (s + 1) := by rw [Nat.add_assoc, Int.pow_add]; rfl
    have hpw2 : (2 : Int) ^ (32 * 0 + s) = 1 * 2 ^ s := by rw [Int.pow_add]; rfl
    have hN : a0 + 4294967296 * (a1 + 4294967296 * (a2 + 4294967296 * (a3 + 4294967296 * (a4 + 4294967296 * (a5))))) = 2 ^ (s + 1) * w := by
      rw [hpw, Int.mul_assoc] at hw
      generalize 2 ^ (s + 1) * w = W at *
      omega
    have hz := modz _ _ _ hN
    refine ⟨a0, by rw [ea]; rfl, A0, hz, ?_⟩
    rw [ea, hpw2]
    show [a0 + 2 ^ s, a1, a2, a3, a4, a5] = _
    exact (dig_of (a := N + 1 * 2 ^ s) ⟨⟨by omega, up a0 A0.1 A0.2 hz⟩, A1, A2, A3, A4, A5⟩ (by rw [va]; omega)).symm
  · have hpw : (2 : Int) ^ (32 * 1 + s + 1) = 4294967296 * 2 ^ (s + 1) := by rw [Nat.add_assoc, Int.pow_add]; rfl
    have hpw2 : (2 : Int) ^ (32 * 1 + s) = 4294967296 * 2 ^ s := by rw [Int.pow_add]; rfl
    have hN : a1 + 4294967296 * (a2 + 4294967296 * (a3 + 4294967296 * (a4 + 4294967296 * (a5)))) = 2 ^ (s + 1) * w := by
      rw [hpw, Int.mul_assoc] at hw
      generalize 2 ^ (s + 1) * w = W at *
      omega
    have hz := modz _ _ _ hN
    refine ⟨a1, by rw [ea]; rfl, A1, hz, ?_⟩
    rw [ea, hpw2]
    show [a0, a1 + 2 ^ s, a2, a3, a4, a5] = _
    exact (dig_of (a := N + 4294967296 * 2 ^ s) ⟨A0, ⟨by omega, up a1 A1.1 A1.2 hz⟩, A2, A3, A4, A5⟩ (by rw [va]; omega)).symm
  · have hpw : (2 : Int) ^ (32 * 2 + s + 1) = 18446744073709551616 * 2 ^ (s + 1) := by rw [Nat.add_assoc, Int.pow_add]; rfl
    have hpw2 : (2 : Int) ^ (32 * 2 + s) = 18446744073709551616 * 2 ^ s := by rw [Int.pow_add]; rfl
    have hN : a2 + 4294967296 * (a3 + 4294967296 * (a4 + 4294967296 * (a5))) = 2 ^ (s + 1) * w := by
      rw [hpw, Int.mul_assoc] at hw
      generalize 2 ^ (s + 1) * w = W at *
      omega
    have hz := modz _ _ _ hN
    refine ⟨a2, by rw [ea]; rfl, A2, hz, ?_⟩
    rw [ea, hpw2]
    show [a0, a1, a2 + 2 ^ s, a3, a4, a5] = _
    exact (dig_of (a := N + 18446744073709551616 * 2 ^ s) ⟨A0, A1, ⟨by omega, up a2 A2.1 A2.2 hz⟩, A3, A4, A5⟩ (by rw [va]; omega)).symm
  · have hpw : (2 : Int) ^ (32 * 3 + s + 1) = 79228162514264337593543950336 * 2 ^ (s + 1) := by rw [Nat.add_assoc, Int.pow_add]; rfl
    have hpw2 : (2 : Int) ^ (32 * 3 + s) = 79228162514264337593543950336 * 2 ^ s := by rw [Int.pow_add]; rfl
    have hN : a3 + 4294967296 * (a4 + 4294967296 * (a5)) = 2 ^ (s + 1) * w := by
      rw [hpw, Int.mul_assoc] at hw
      generalize 2 ^ (s + 1) * w = W at *
      omega
    have hz := modz _ _ _ hN
    refine ⟨a3, by rw [ea]; rfl, A3, hz, ?_⟩
    rw [ea, hpw2]
    show [a0, a1, a2, a3 + 2 ^ s, a4, a5] = _
    exact (dig_of (a := N + 79228162514264337593543950336 * 2 ^ s) ⟨A0, A1, A2, ⟨by omega, up a3 A3.1 A3.2 hz⟩, A4, A5⟩ (by rw [va]; omega)).symm
  · have hpw : (2 : Int) ^ (32 * 4 + s + 1) = 340282366920938463463374607431768211456 * 2 ^ (s + 1) := by rw [Nat.add_assoc, Int.pow_add]; rfl
    have hpw2 : (2 : Int) ^ (32 * 4 + s) = 340282366920938463463374607431768211456 * 2 ^ s := by rw [Int.pow_add]; rfl
    have hN : a4 + 4294967296 * (a5) = 2 ^ (s + 1) * w := by
      rw [hpw, Int.mul_assoc] at hw
      generalize 2 ^ (s + 1) * w = W at *
      omega
    have hz := modz _ _ _ hN
    refine ⟨a4, by rw [ea]; rfl, A4, hz, ?_⟩
    rw [ea, hpw2]
    show [a0, a1, a2, a3, a4 + 2 ^ s, a5] = _
    exact (dig_of (a := N + 340282366920938463463374607431768211456 * 2 ^ s) ⟨A0, A1, A2, A3, ⟨by omega, up a4 A4.1 A4.2 hz⟩, A5⟩ (by rw [va]; omega)).symm
  · have hpw : (2 : Int) ^ (32 * 5 + s + 1) = 1461501637330902918203684832716283019655932542976 * 2 ^ (s + 1) := by rw [Nat.add_assoc, Int.pow_add]; rfl
    have hpw2 : (2 : Int) ^ (32 * 5 + s) = 1461501637330902918203684832716283019655932542976 * 2 ^ s := by rw [Int.pow_add]; rfl
    have hN : a5 + 4294967296 * (0) = 2 ^ (s + 1) * w := by
      rw [hpw, Int.mul_assoc] at hw
      generalize 2 ^ (s + 1) * w = W at *
      omega
    have hz := modz _ _ _ hN
    refine ⟨a5, by rw [ea]; rfl, A5, hz, ?_⟩
    rw [ea, hpw2]
    show [a0, a1, a2, a3, a4, a5 + 2 ^ s] = _
    exact (dig_of (a := N + 1461501637330902918203684832716283019655932542976 * 2 ^ s) ⟨A0, A1, A2, A3, A4, ⟨by omega, up a5 A5.1 A5.2 hz⟩⟩ (by rw [va]; omega)).symm
/-- One bit of the division. -/
theorem divide_loop (a b : Int) (ha : 0 ≤ a) (ha1 : a < 6277101735386680763835789423207666416102355444464034512896) (hb : 0 < b) (hb1 : b ≤ 3138550867693340381917894711603833208051177722232017256448) (j : Nat) : ∀ Q R : Int, j ≤ 192 → 0 ≤ Q → 0 ≤ R → R < b → a / 2 ^ j = b * Q + R →
    Ev (fun k => computusref01_divide.l0 k (dig a) (dig b) (dig (Q * 2 ^ j)) (dig R) ((j : Int) - 1)) (dig (a / b), dig (a % b)) := by
  induction j with
  | zero =>
    intro Q R hj hQ hR hRb he
    rw [Int.pow_zero, Int.ediv_one] at he
    have h := (Int.ediv_emod_unique (a := a) (b := b) (r := R) (q := Q) hb).2 ⟨by omega, hR, hRb⟩
    refine Ev.at1 fun k => ?_
    simp only [computusref01_divide.l0]
    rw [if_neg (by omega), h.1, h.2, Int.pow_zero, Int.mul_one]
  | succ n ih =>
    intro Q R hj hQ hR hRb he
    have hpn := pow_pos' n
    have hp1 := pow_pos' (n + 1)
    have hs1 : (2 : Int) ^ (n + 1) = 2 ^ n * 2 := Int.pow_succ _ _
    -- the next bit
    have hbit : a / 2 ^ n = 2 * (a / 2 ^ (n + 1)) + a / 2 ^ n % 2 := by
      have e : a / 2 ^ (n + 1) = a / 2 ^ n / 2 := by rw [hs1, Int.ediv_ediv_of_nonneg (by omega)]
      rw [e]; omega
    obtain ⟨u, hu, ub, hub⟩ := rd_bit a n (by omega)
    obtain ⟨c, hc⟩ : ∃ c, a / 2 ^ n % 2 = c := ⟨_, rfl⟩
    have hc01 : 0 ≤ c ∧ c ≤ 1 := by omega
    rw [hc] at hbit hub
    -- the bits of the quotient
    have hQ1 : Q * 2 ^ (n + 1) < 6277101735386680763835789423207666416102355444464034512896 := by
      have e := Int.mul_ediv_add_emod a (2 ^ (n + 1))
      have g := Int.emod_nonneg a (Int.ne_of_gt hp1)
      have h1 : Q ≤ b * Q := by
        have := Int.mul_le_mul_of_nonneg_right (show (1 : Int) ≤ b by omega) hQ
        omega
      have h2 : Q ≤ a / 2 ^ (n + 1) := by omega
      have h3 := Int.mul_le_mul_of_nonneg_left h2 (show (0 : Int) ≤ 2 ^ (n + 1) by omega)
      rw [Int.mul_comm Q]; omega
    have hQ0 : 0 ≤ Q * 2 ^ (n + 1) := Int.mul_nonneg hQ (by omega)
    obtain ⟨v, hv, vb, vm, vset⟩ := set_bit (Q * 2 ^ (n + 1)) n (by omega) hQ0 hQ1 (Int.mul_emod_left _ _)
    have hidx : wrap64 (Int.tdiv ((n + 1 : Nat) - 1 : Int) 32) = (n : Int) / 32 := by
      rw [show ((n + 1 : Nat) - 1 : Int) = (n : Int) by omega, td_pos (by omega), w64 (by omega) (by omega)]
    have hsh : IntKind.u64.wrap (Int.tmod ((n + 1 : Nat) - 1 : Int) 32) = ((n % 32 : Nat) : Int) := by
      rw [show ((n + 1 : Nat) - 1 : Int) = (n : Int) by omega, tm_pos (by omega), u64w (by omega) (by omega)]; omega
    have hn32 : n % 32 < 32 := Nat.mod_lt _ (by omega)
    have hshr : ∀ x : Int, shr .u64 x ((n % 32 : Nat) : Int) = x / 2 ^ (n % 32) := fun x => by
      unfold shr; rw [Int.toNat_natCast, Nat.min_eq_left (by show n % 32 ≤ 64; omega)]
    have hshl : shl .u64 1 ((n % 32 : Nat) : Int) = 2 ^ (n % 32) := by
      unfold shl; rw [Int.toNat_natCast, Nat.min_eq_left (by show n % 32 ≤ 64; omega), Int.one_mul, u64w]
      · have := pow_pos' (n % 32); omega
      · have : (2 : Int) ^ (n % 32) ≤ 2 ^ 31 := by exact_mod_cast Nat.pow_le_pow_right (by decide) (show n % 32 ≤ 31 by omega)
        omega
    have hand : Go.bits .and .u64 (u / 2 ^ (n % 32)) 1 = c := by
      have h1 := Int.ediv_le_self (2 ^ (n % 32)) ub.1
      have h0 := Int.ediv_nonneg ub.1 (b := 2 ^ (n % 32)) (by have := pow_pos' (n % 32); omega)
      rw [show (1 : Int) = 2 ^ 1 - 1 from rfl, bits_mask .u64 64 (by decide) wraps_u64 1 (by decide) _ h0 (by omega), ← hub]; rfl
    -- the rest, twice, and the bit
    have hRr : 2 * R + c < 6277101735386680763835789423207666416102355444464034512896 := by omega
    have hset0 : ∀ l, l = dig (R + R) → l.set (0 : Int).toNat (Go.bits .or .u64 (rd l 0) c) = dig (2 * R + c) := by
      intro l hl
      subst hl
      obtain ⟨a0, a1, a2, a3, a4, a5, ea, ⟨A0, A1, A2, A3, A4, A5⟩, va⟩ := dig_form (a := R + R) (by omega) (by omega)
      rw [ea]
      show [Go.bits .or .u64 a0 c, a1, a2, a3, a4, a5] = _
      rw [orj 1 (by omega) A0.1 (by show a0 % 2 = 0; omega) (by omega) hc01.1 (by show c < 2; omega)]
      exact (dig_of (a := 2 * R + c) ⟨by omega, A1, A2, A3, A4, A5⟩ (by omega)).symm
    refine Ev.succ ?_
    simp only [computusref01_divide.l0]
    refine Ev.pos (by omega) ?_
    refine Ev.bind (add_ev hR hR (by omega)) ?_
    rw [hidx, hsh]
    refine Ev.pos (by rw [dig_length]; decide) ?_
    refine Ev.pos (by omega) ?_
    refine Ev.pos (by rw [dig_length]; omega) ?_
    refine Ev.pos (by omega) ?_
    rw [hu, hshr, hand, hset0 _ rfl, hshl, hv]
    rw [orj (n % 32 + 1) (by omega) vb.1 vm (by omega) (by have := pow_pos' (n % 32); omega) (by have := pow_pos' (n % 32); rw [Int.pow_succ]; omega), vset, show (((n + 1 : Nat) : Int) - 1 - 1) = (n : Int) - 1 by omega, w64 (x := (n : Int) - 1) (by omega) (by omega)]
    refine Ev.bind0 rfl ?_
    refine Ev.bind (cmp_ev (by omega) hRr (by omega) (by omega)) ?_
    by_cases hg : b ≤ 2 * R + c
    · have : sgn (2 * R + c) b ≥ 0 := by unfold sgn; split <;> omega
      simp only [if_pos this]
      refine Ev.bind (less_ev hRr (by omega) hg) ?_
      refine Ev.pos (by rw [dig_length]; omega) ?_
      have e : Q * 2 ^ (n + 1) + 2 ^ n = (2 * Q + 1) * 2 ^ n := by rw [hs1, Int.add_mul, Int.one_mul, Int.mul_comm 2 Q, Int.mul_assoc, Int.mul_comm 2]
      rw [e]
      refine ih (2 * Q + 1) (2 * R + c - b) (by omega) (by omega) (by omega) (by omega) ?_
      have em : b * (2 * Q + 1) = 2 * (b * Q) + b := by rw [Int.mul_add, Int.mul_one, Int.mul_left_comm]
      rw [hbit, he, em]; omega
    · have : ¬ sgn (2 * R + c) b ≥ 0 := by unfold sgn; rw [if_pos (by omega)]; omega
      simp only [if_neg this]
      have e : Q * 2 ^ (n + 1) = (2 * Q) * 2 ^ n := by rw [hs1, Int.mul_comm 2 Q, Int.mul_assoc, Int.mul_comm 2]
      rw [e]
      refine ih (2 * Q) (2 * R + c) (by omega) (by omega) (by omega) (by omega) ?_
      have em : b * (2 * Q) = 2 * (b * Q) := Int.mul_left_comm _ _ _
      rw [hbit, he, em]; omega
end Go.Proofs.Yteceeoaabmbckaa.Civ
