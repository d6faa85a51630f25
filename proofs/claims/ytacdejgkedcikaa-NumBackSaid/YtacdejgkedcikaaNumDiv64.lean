/- The division of 128 bits by 64: what math/bits' Div64 answers. -/
import Derived.Test.YtacdejgkedcikaaBase
import Derived.Test.YtacdejgkedcikaaNumWide
import Derived.Test.YtacdejgkedcikaaNumFns
import Derived.Test.YtacdejgkedcikaaNumOver
import Derived.Test.YtacdejgkedcikaaPx0
import Derived.Test.YtacdejgkedcikaaPx1
import Derived.Test.YtacdejgkedcikaaPx2
import Derived.Test.YtacdejgkedcikaaPx4
namespace Go.Proofs.Ytacdejgkedcikaa.Civ
set_option linter.unusedVariables false
set_option linter.unusedSimpArgs false
open Go.RowKit Go.Proofs.YtacdejgkedcikaaW.PrintWords Go.Proofs.YtacdejgkedcikaaW.PrintLast Go.Proofs.YtacdejgkedcikaaW.PrintMore Go.Proofs.Ytacdejgkedcikaa.P

def len8 : ByteArray := ⟨#[0, 1, 2, 2, 3, 3, 3, 3, 4, 4, 4, 4, 4, 4, 4, 4, 5, 5, 5, 5, 5, 5, 5, 5, 5, 5, 5, 5, 5, 5, 5, 5, 6, 6, 6, 6, 6, 6, 6, 6, 6, 6, 6, 6, 6, 6, 6, 6, 6, 6, 6, 6, 6, 6, 6, 6, 6, 6, 6, 6, 6, 6, 6, 6, 7, 7, 7, 7, 7, 7, 7, 7, 7, 7, 7, 7, 7, 7, 7, 7, 7, 7, 7, 7, 7, 7, 7, 7, 7, 7, 7, 7, 7, 7, 7, 7, 7, 7, 7, 7, 7, 7, 7, 7, 7, 7, 7, 7, 7, 7, 7, 7, 7, 7, 7, 7, 7, 7, 7, 7, 7, 7, 7, 7, 7, 7, 7, 7, 8, 8, 8, 8, 8, 8, 8, 8, 8, 8, 8, 8, 8, 8, 8, 8, 8, 8, 8, 8, 8, 8, 8, 8, 8, 8, 8, 8, 8, 8, 8, 8, 8, 8, 8, 8, 8, 8, 8, 8, 8, 8, 8, 8, 8, 8, 8, 8, 8, 8, 8, 8, 8, 8, 8, 8, 8, 8, 8, 8, 8, 8, 8, 8, 8, 8, 8, 8, 8, 8, 8, 8, 8, 8, 8, 8, 8, 8, 8, 8, 8, 8, 8, 8, 8, 8, 8, 8, 8, 8, 8, 8, 8, 8, 8, 8, 8, 8, 8, 8, 8, 8, 8, 8, 8, 8, 8, 8, 8, 8, 8, 8, 8, 8, 8, 8, 8, 8, 8, 8, 8, 8, 8, 8, 8, 8, 8, 8]⟩
theorem len8_nat : ∀ i : Fin 256, i.val ≠ 0 → ∃ n : Fin 9, bt len8 (i.val : Int) = (n.val : Int) ∧ 1 ≤ n.val ∧ 2 ^ (n.val - 1) ≤ i.val ∧ i.val < 2 ^ n.val := by decide +kernel
theorem len8_bt {i : Int} (h0 : 1 ≤ i) (h1 : i < 256) : ∃ n : Nat, bt len8 i = (n : Int) ∧ 1 ≤ n ∧ n ≤ 8 ∧ (2 : Int) ^ (n - 1) ≤ i ∧ i < 2 ^ n := by
  obtain ⟨m, rfl⟩ := Int.eq_ofNat_of_zero_le (show 0 ≤ i by omega)
  obtain ⟨n, e, a, b, c⟩ := len8_nat ⟨m, by omega⟩ (by show m ≠ 0; omega)
  exact ⟨n.val, e, a, by omega, by exact_mod_cast b, by exact_mod_cast c⟩
theorem up_bits {i x : Int} {n c : Nat} (hn : 1 ≤ n) (h1 : (2 : Int) ^ (n - 1) ≤ i) (h2 : i < 2 ^ n) (C : Int) (hC : (2 : Int) ^ c = C) (h3 : C * i ≤ x) (h4 : x < C * i + C) : (2 : Int) ^ (n + c - 1) ≤ x ∧ x < 2 ^ (n + c) := by
  have hp := pow_pos' c
  rw [show n + c - 1 = (n - 1) + c by omega, Int.pow_add, Int.pow_add, hC, Int.mul_comm _ C, Int.mul_comm _ C]
  have a := Int.mul_le_mul_of_nonneg_left h1 (show 0 ≤ C by omega)
  have b := Int.mul_le_mul_of_nonneg_left (show i + 1 ≤ 2 ^ n by omega) (show 0 ≤ C by omega)
  rw [Int.mul_add, Int.mul_one] at b
  omega
set_option maxRecDepth 100000 in
theorem len_j0 (k : Nat) (x m : Int) : bits_Len64.j0 (k + 1) x m = if x ≥ 65536 then (if (x / 65536) ≥ 256 then (if 0 ≤ (((x / 65536) / 256) % 256) then (if (((x / 65536) / 256) % 256) < 256 then some (wrap64 ((wrap64 ((wrap64 (m + 16)) + 8)) + (wrap64 (bt len8 (((x / 65536) / 256) % 256))))) else none) else none) else (if 0 ≤ ((x / 65536) % 256) then (if ((x / 65536) % 256) < 256 then some (wrap64 ((wrap64 (m + 16)) + (wrap64 (bt len8 ((x / 65536) % 256))))) else none) else none)) else (if x ≥ 256 then (if 0 ≤ ((x / 256) % 256) then (if ((x / 256) % 256) < 256 then some (wrap64 ((wrap64 (m + 8)) + (wrap64 (bt len8 ((x / 256) % 256))))) else none) else none) else (if 0 ≤ (x % 256) then (if (x % 256) < 256 then some (wrap64 (m + (wrap64 (bt len8 (x % 256))))) else none) else none)) := rfl
theorem len_tail (k : Nat) {x m : Int} (h0 : 1 ≤ x) (h1 : x < 4294967296) (hm : 0 ≤ m ∧ m ≤ 32) : ∃ n : Nat, bits_Len64.j0 (k + 1) x m = some (m + n) ∧ 1 ≤ n ∧ n ≤ 32 ∧ (2 : Int) ^ (n - 1) ≤ x ∧ x < 2 ^ n := by
  rw [len_j0]
  by_cases g : x ≥ 65536
  · rw [if_pos g]
    by_cases f : x / 65536 ≥ 256
    · rw [if_pos f, if_pos (by omega), if_pos (by omega), show x / 65536 / 256 % 256 = x / 16777216 by omega]
      obtain ⟨n, e, a, b, c, d⟩ := len8_bt (i := x / 16777216) (by omega) (by omega)
      have u := up_bits (c := 24) a c d 16777216 rfl (show 16777216 * (x / 16777216) ≤ x by omega) (by omega)
      refine ⟨n + 24, ?_, by omega, by omega, u.1, u.2⟩
      rw [e, w64 (x := (n : Int)) (by omega) (by omega), w64 (x := m + 16) (by omega) (by omega), w64 (x := m + 16 + 8) (by omega) (by omega), w64 (by omega) (by omega)]
      clear e; congr 1; omega
    · rw [if_neg f, if_pos (by omega), if_pos (by omega), show x / 65536 % 256 = x / 65536 by omega]
      obtain ⟨n, e, a, b, c, d⟩ := len8_bt (i := x / 65536) (by omega) (by omega)
      have u := up_bits (c := 16) a c d 65536 rfl (show 65536 * (x / 65536) ≤ x by omega) (by omega)
      refine ⟨n + 16, ?_, by omega, by omega, u.1, u.2⟩
      rw [e, w64 (x := (n : Int)) (by omega) (by omega), w64 (x := m + 16) (by omega) (by omega), w64 (by omega) (by omega)]
      clear e; congr 1; omega
  · rw [if_neg g]
    by_cases f : x ≥ 256
    · rw [if_pos f, if_pos (by omega), if_pos (by omega), show x / 256 % 256 = x / 256 by omega]
      obtain ⟨n, e, a, b, c, d⟩ := len8_bt (i := x / 256) (by omega) (by omega)
      have u := up_bits (c := 8) a c d 256 rfl (show 256 * (x / 256) ≤ x by omega) (by omega)
      refine ⟨n + 8, ?_, by omega, by omega, u.1, u.2⟩
      rw [e, w64 (x := (n : Int)) (by omega) (by omega), w64 (x := m + 8) (by omega) (by omega), w64 (by omega) (by omega)]
      clear e; congr 1; omega
    · rw [if_neg f, if_pos (by omega), if_pos (by omega), show x % 256 = x by omega]
      obtain ⟨n, e, a, b, c, d⟩ := len8_bt (i := x) (by omega) (by omega)
      refine ⟨n, ?_, by omega, by omega, c, d⟩
      rw [e, w64 (x := (n : Int)) (by omega) (by omega), w64 (by omega) (by omega)]
theorem lead_eq (k : Nat) {y : Int} (h0 : 1 ≤ y) (h1 : y ≤ 18446744073709551615) : ∃ s : Nat, s ≤ 63 ∧ bits_LeadingZeros64.f (k + 1) y = some (s : Int) ∧ 9223372036854775808 ≤ y * 2 ^ s ∧ y * 2 ^ s ≤ 18446744073709551615 := by
  have key : ∃ n : Nat, bits_Len64.f (k + 1) y = some (n : Int) ∧ 1 ≤ n ∧ n ≤ 64 ∧ (2 : Int) ^ (n - 1) ≤ y ∧ y < 2 ^ n := by
    unfold bits_Len64.f
    by_cases g : y ≥ 4294967296
    · rw [if_pos g]
      obtain ⟨n, e, a, b, c, d⟩ := len_tail k (x := y / 4294967296) (m := 32) (by omega) (by omega) (by omega)
      have u := up_bits (c := 32) a c d 4294967296 rfl (show 4294967296 * (y / 4294967296) ≤ y by omega) (by omega)
      exact ⟨n + 32, by rw [e]; congr 1; omega, by omega, by omega, u.1, u.2⟩
    · rw [if_neg g]
      obtain ⟨n, e, a, b, c, d⟩ := len_tail k (x := y) (m := 0) (by omega) (by omega) (by omega)
      exact ⟨n, by rw [e, Int.zero_add], a, by omega, c, d⟩
  obtain ⟨n, e, a, b, c, d⟩ := key
  refine ⟨64 - n, by omega, ?_, ?_, ?_⟩
  · unfold bits_LeadingZeros64.f
    rw [e]
    simp only [Option.bind_some]
    rw [w64 (by omega) (by omega)]
    congr 1; omega
  · have h : (2 : Int) ^ (n - 1) * 2 ^ (64 - n) = 9223372036854775808 := by rw [← Int.pow_add, show n - 1 + (64 - n) = 63 by omega]; rfl
    rw [← h]; exact Int.mul_le_mul_of_nonneg_right c (by have := pow_pos' (64 - n); omega)
  · have h : (2 : Int) ^ n * 2 ^ (64 - n) = 18446744073709551616 := by rw [← Int.pow_add, show n + (64 - n) = 64 by omega]; rfl
    have hp := pow_pos' (64 - n)
    have := Int.mul_le_mul_of_nonneg_right (show y + 1 ≤ 2 ^ n by omega) (show (0 : Int) ≤ 2 ^ (64 - n) by omega)
    rw [h, Int.add_mul, Int.one_mul] at this
    omega

/-! One digit of the quotient: guessed, and lowered. -/
structure Top (u b c t : Int) : Prop where   -- b, c: the divisor's halves; u: less than the divisor; t: the next digit
  b0 : 2147483648 ≤ b
  b1 : b < 4294967296
  c0 : 0 ≤ c
  c1 : c < 4294967296
  t0 : 0 ≤ t
  t1 : t < 4294967296
  u0 : 0 ≤ u
  u1 : u < b * 4294967296 + c
def Done (u b c t q : Int) : Prop := 0 ≤ q ∧ q * (b * 4294967296 + c) ≤ u * 4294967296 + t ∧ u * 4294967296 + t < q * (b * 4294967296 + c) + (b * 4294967296 + c)
structure Guess (u b c t q r : Int) : Prop where
  q0 : 0 ≤ q
  q1 : q ≤ 4294967297
  r0 : 0 ≤ r
  r1 : r < 4294967296
  ur : u = q * b + r
  lt : u * 4294967296 + t < q * (b * 4294967296 + c) + (b * 4294967296 + c)
theorem whole (q b c : Int) : q * (b * 4294967296 + c) = q * b * 4294967296 + q * c := by rw [Int.mul_add, Int.mul_assoc]
theorem Guess.done {u b c t q r : Int} (T : Top u b c t) (G : Guess u b c t q r) (h : q * c ≤ 4294967296 * r + t) : Done u b c t q := by
  have e := whole q b c
  have := G.ur
  refine ⟨G.q0, ?_, G.lt⟩
  rw [e]; omega
theorem Guess.low {u b c t q r : Int} (T : Top u b c t) (G : Guess u b c t q r) (h : q ≥ 4294967296 ∨ q * c > 4294967296 * r + t) : u * 4294967296 + t < q * (b * 4294967296 + c) ∧ 1 ≤ q := by
  obtain ⟨b0, b1, c0, c1, t0, t1, u0, u1⟩ := T
  have e := whole q b c
  have ur := G.ur
  have r0 := G.r0
  have q0 := G.q0
  have key : u * 4294967296 + t < q * (b * 4294967296 + c) := by
    rcases h with h | h
    · have a1 := Int.mul_le_mul_of_nonneg_right h (show 0 ≤ b by omega)
      have a2 := Int.mul_le_mul_of_nonneg_right h c0
      rw [e]; omega
    · rw [e]; omega
  refine ⟨key, ?_⟩
  rcases Int.lt_or_le q 1 with g | g
  · have : q = 0 := by omega
    subst this
    rw [Int.zero_mul] at key; omega
  · exact g
theorem less_one (q x : Int) : (q - 1) * x = q * x - x := by rw [Int.sub_mul, Int.one_mul]
theorem Guess.last {u b c t q r : Int} (T : Top u b c t) (G : Guess u b c t q r) (h : q ≥ 4294967296 ∨ q * c > 4294967296 * r + t) (hr : r + b ≥ 4294967296) : Done u b c t (q - 1) := by
  obtain ⟨key, q1⟩ := G.low T h
  obtain ⟨b0, b1, c0, c1, t0, t1, u0, u1⟩ := T
  have ur := G.ur
  have e := whole q b c
  have a := Int.mul_le_mul_of_nonneg_right (show q - 1 ≤ 4294967296 by have := G.q1; omega) c0
  rw [less_one] at a
  refine ⟨by omega, ?_, ?_⟩
  · rw [less_one, e]; omega
  · rw [less_one]; omega
theorem Guess.next {u b c t q r : Int} (T : Top u b c t) (G : Guess u b c t q r) (h : q ≥ 4294967296 ∨ q * c > 4294967296 * r + t) (hr : ¬ r + b ≥ 4294967296) : Guess u b c t (q - 1) (r + b) := by
  obtain ⟨key, q1⟩ := G.low T h
  have ur := G.ur
  have q2 := G.q1
  have b0 := T.b0
  have r0 := G.r0
  refine ⟨by omega, by omega, by omega, by omega, ?_, ?_⟩
  · rw [less_one]; omega
  · rw [less_one]; omega
theorem guess_first {u b c t : Int} (T : Top u b c t) : Guess u b c t (u / b) (u % b) := by
  obtain ⟨b0, b1, c0, c1, t0, t1, u0, u1⟩ := T
  have e := Int.mul_ediv_add_emod u b
  rw [Int.mul_comm] at e
  have r0 := Int.emod_nonneg u (show b ≠ 0 by omega)
  have r1 := Int.emod_lt_of_pos u (show 0 < b by omega)
  have q0 := Int.ediv_nonneg u0 (show 0 ≤ b by omega)
  have e2 := whole (u / b) b c
  have c2 : 0 ≤ u / b * c := Int.mul_nonneg q0 c0
  refine ⟨q0, ?_, r0, by omega, by omega, by rw [e2]; omega⟩
  have : u / b < 4294967298 := Int.ediv_lt_of_lt_mul (by omega) (by omega)
  omega
theorem done_lt {u b c t q : Int} (T : Top u b c t) (D : Done u b c t q) : q < 4294967296 := by
  rcases Int.lt_or_le q 4294967296 with g | g
  · exact g
  · have a := Int.mul_le_mul_of_nonneg_right g (show 0 ≤ b * 4294967296 + c by have := T.b0; have := T.c0; omega)
    have := D.2.1; have := T.u1; have := T.t1
    omega
theorem loop0 {u b c t : Int} (T : Top u b c t) (y s x14 : Int) {res : Int × Int} (fin : ∀ q, Done u b c t q → Ev (fun k => bits_Div64.j2 k y s b c u t x14 q) res) (d : Nat) :
    ∀ q r, Guess u b c t q r → (4294967296 - r).toNat ≤ d → Ev (fun k => bits_Div64.l0 k y s b c u t x14 q r) res := by
  induction d with
  | zero => intro q r G hd; have := G.r1; omega
  | succ d ih =>
    intro q r G hd
    have b0 := T.b0
    have b1 := T.b1
    have c0 := T.c0
    have c1 := T.c1
    have t0 := T.t0
    have t1 := T.t1
    have r0 := G.r0
    have r1 := G.r1
    have q0 := G.q0
    have q1 := G.q1
    refine Ev.succ ?_
    simp only [bits_Div64.l0]
    have yes : (q ≥ 4294967296 ∨ q * c > 4294967296 * r + t) → Ev (fun k => bits_Div64.j1 k y s b c u t x14 q r true) res := by
      intro h
      have q2 := (G.low T h).2
      refine Ev.succ ?_
      simp only [bits_Div64.j1, if_true]
      rw [u64w (x := r + b) (by omega) (by omega), u64w (x := q - 1) (by omega) (by omega)]
      by_cases hr : r + b ≥ 4294967296
      · exact Ev.pos hr (fin _ (G.last T h hr))
      · exact Ev.neg hr (ih _ _ (G.next T h hr) (by omega))
    by_cases g : q ≥ 4294967296
    · exact Ev.pos g (yes (.inl g))
    · refine Ev.neg g ?_
      have m := mul_bd q0 (show q ≤ 4294967295 by omega) c0 (show c ≤ 4294967295 by omega)
      rw [u64w (x := q * c) (by omega) (by omega), u64w (x := 4294967296 * r) (by omega) (by omega), u64w (x := 4294967296 * r + t) (by omega) (by omega)]
      by_cases h : q * c > 4294967296 * r + t
      · rw [decide_eq_true h]; exact yes (.inr h)
      · rw [decide_eq_false h]
        refine Ev.succ ?_
        simp only [bits_Div64.j1, Bool.false_eq_true, if_false]
        exact fin _ (G.done T (by omega))
theorem loop1 {u b c t : Int} (T : Top u b c t) (y s q1 : Int) (h8 : 0 ≤ s) {f : Int → Int × Int} (hf : ∀ q, f q = (IntKind.u64.wrap ((IntKind.u64.wrap (q1 * 4294967296)) + q), shr .u64 (IntKind.u64.wrap ((IntKind.u64.wrap ((IntKind.u64.wrap (u * 4294967296)) + t)) - (IntKind.u64.wrap (q * y)))) s)) {res : Int × Int} (fin : ∀ q, Done u b c t q → f q = res) (d : Nat) :
    ∀ q r, Guess u b c t q r → (4294967296 - r).toNat ≤ d → Ev (fun k => bits_Div64.l1 k y s b c t q1 r u q) res := by
  induction d with
  | zero => intro q r G hd; have := G.r1; omega
  | succ d ih =>
    intro q r G hd
    have b0 := T.b0
    have b1 := T.b1
    have c0 := T.c0
    have c1 := T.c1
    have t0 := T.t0
    have t1 := T.t1
    have r0 := G.r0
    have r1 := G.r1
    have q0 := G.q0
    have g1 := G.q1
    refine Ev.succ ?_
    simp only [bits_Div64.l1]
    have yes : (q ≥ 4294967296 ∨ q * c > 4294967296 * r + t) → Ev (fun k => bits_Div64.j4 k y s b c t q1 r u q true) res := by
      intro h
      have q2 := (G.low T h).2
      refine Ev.succ ?_
      simp only [bits_Div64.j4, if_true]
      rw [u64w (x := r + b) (by omega) (by omega), u64w (x := q - 1) (by omega) (by omega)]
      by_cases hr : r + b ≥ 4294967296
      · refine Ev.pos hr (Ev.pos h8 ?_)
        rw [← hf, fin _ (G.last T h hr)]; exact Ev.now _
      · exact Ev.neg hr (ih _ _ (G.next T h hr) (by omega))
    by_cases g : q ≥ 4294967296
    · exact Ev.pos g (yes (.inl g))
    · refine Ev.neg g ?_
      have m := mul_bd q0 (show q ≤ 4294967295 by omega) c0 (show c ≤ 4294967295 by omega)
      rw [u64w (x := q * c) (by omega) (by omega), u64w (x := 4294967296 * r) (by omega) (by omega), u64w (x := 4294967296 * r + t) (by omega) (by omega)]
      by_cases h : q * c > 4294967296 * r + t
      · rw [decide_eq_true h]; exact yes (.inr h)
      · rw [decide_eq_false h]
        refine Ev.succ ?_
        simp only [bits_Div64.j4, Bool.false_eq_true, if_false]
        refine Ev.pos h8 ?_
        rw [← hf, fin _ (G.done T (by omega))]; exact Ev.now _
/-! The whole: shifted until the divisor's first bit stands first, divided by two digits, shifted back. -/
theorem shl_s {x : Int} (s : Nat) (h : s ≤ 63) : shl .u64 x (s : Int) = x * 2 ^ s % 18446744073709551616 := by
  unfold shl; rw [Int.toNat_natCast, Nat.min_eq_left (by show s ≤ 64; omega), u64m]
theorem shr_s {x : Int} (s : Nat) (h : s ≤ 64) : shr .u64 x (s : Int) = x / 2 ^ s := by
  unfold shr; rw [Int.toNat_natCast, Nat.min_eq_left (by show s ≤ 64; omega)]
theorem div64_ev (hi lo y : Int) (h0 : 0 ≤ hi) (h1 : hi < y) (hy : y ≤ 18446744073709551615) (l0 : 0 ≤ lo) (l1 : lo ≤ 18446744073709551615) :
    Ev (fun k => bits_Div64.f k hi lo y) ((hi * 18446744073709551616 + lo) / y, (hi * 18446744073709551616 + lo) % y) := by
  by_cases hz : hi = 0
  · subst hz
    rw [Int.zero_mul, Int.zero_add]
    exact Ev.at0 fun k => div64_small k lo y (by omega) l0 l1
  unfold bits_Div64.f
  refine Ev.neg (by omega) (Ev.neg (by omega) (Ev.neg hz ?_))
  obtain ⟨s, hs, -, n0, n1⟩ := lead_eq 0 (y := y) (by omega) hy
  have hlead : Ev (fun k => bits_LeadingZeros64.f k y) (s : Int) := by
    refine Ev.at1 fun k => ?_
    obtain ⟨s', hs', e, n0', n1'⟩ := lead_eq k (y := y) (by omega) hy
    rw [e]
    have : s' = s := by
      rcases Nat.lt_trichotomy s' s with g | g | g
      · exfalso
        have : (2 : Int) ^ (s' + 1) ≤ 2 ^ s := by exact_mod_cast Nat.pow_le_pow_right (by decide) g
        rw [Int.pow_succ] at this
        have := Int.mul_le_mul_of_nonneg_left this (show 0 ≤ y by omega)
        rw [← Int.mul_assoc] at this; omega
      · exact g
      · exfalso
        have : (2 : Int) ^ (s + 1) ≤ 2 ^ s' := by exact_mod_cast Nat.pow_le_pow_right (by decide) g
        rw [Int.pow_succ] at this
        have := Int.mul_le_mul_of_nonneg_left this (show 0 ≤ y by omega)
        rw [← Int.mul_assoc] at this; omega
    rw [this]
  refine Ev.bind hlead ?_
  have hp := pow_pos' s
  have hpp : (2 : Int) ^ s * 2 ^ (64 - s) = 18446744073709551616 := by rw [← Int.pow_add, show s + (64 - s) = 64 by omega]; rfl
  have hpq := pow_pos' (64 - s)
  have e64 : IntKind.u64.wrap (64 - IntKind.u64.wrap (s : Int)) = ((64 - s : Nat) : Int) := by
    rw [u64w (x := (s : Int)) (by omega) (by omega), u64w (by omega) (by omega)]; omega
  rw [e64, u64w (x := (s : Int)) (by omega) (by omega)]
  simp only [shl_s s hs, shr_s (64 - s) (by omega)]
  have Y : y * 2 ^ s % 18446744073709551616 = y * 2 ^ s := by omega
  have hhi := Int.mul_le_mul_of_nonneg_right (show hi + 1 ≤ y by omega) (show (0 : Int) ≤ 2 ^ s by omega)
  rw [Int.add_mul, Int.one_mul] at hhi
  have hh0 : 0 ≤ hi * 2 ^ s := Int.mul_nonneg h0 (by omega)
  have H : hi * 2 ^ s % 18446744073709551616 = hi * 2 ^ s := by omega
  rw [Y, H]
  -- the low half's first bits
  have elo : lo * 2 ^ s = lo / 2 ^ (64 - s) * 18446744073709551616 + lo * 2 ^ s % 18446744073709551616 := by
    have : lo * 2 ^ s / 18446744073709551616 = lo / 2 ^ (64 - s) := by
      rw [← hpp, Int.mul_comm lo, Int.mul_ediv_mul_of_pos _ _ hp]
    omega
  have w0 := Int.ediv_nonneg l0 (show (0 : Int) ≤ 2 ^ (64 - s) by omega)
  have w1 : lo / 2 ^ (64 - s) < 2 ^ s := Int.ediv_lt_of_lt_mul hpq (by rw [hpp]; omega)
  rw [orj s hs hh0 (Int.mul_emod_left _ _) (by omega) w0 w1]
  have hN : (hi * 18446744073709551616 + lo) * 2 ^ s = (hi * 2 ^ s + lo / 2 ^ (64 - s)) * 18446744073709551616 + lo * 2 ^ s % 18446744073709551616 := by
    rw [Int.add_mul, Int.mul_assoc, Int.mul_comm 18446744073709551616, ← Int.mul_assoc, elo, Int.add_mul]; omega
  obtain ⟨u, hu⟩ : ∃ u, hi * 2 ^ s + lo / 2 ^ (64 - s) = u := ⟨_, rfl⟩
  obtain ⟨v, hv⟩ : ∃ v, lo * 2 ^ s % 18446744073709551616 = v := ⟨_, rfl⟩
  have hv01 : 0 ≤ v ∧ v < 18446744073709551616 := by omega
  rw [hu, hv] at hN
  rw [hu, hv]
  have huy : u < y * 2 ^ s := by omega
  have hu0 : 0 ≤ u := by omega
  clear elo w0 w1 hu hv H Y hhi hh0
  obtain ⟨z, hyz⟩ : ∃ z, y * 2 ^ s = z := ⟨_, rfl⟩
  rw [hyz] at n0 n1 huy ⊢
  rw [and32 (by omega) (by omega), and32 (by omega) (by omega)]
  have ez : z = z / 4294967296 * 4294967296 + z % 4294967296 := by omega
  have T1 : Top u (z / 4294967296) (z % 4294967296) (v / 4294967296) := ⟨by omega, by omega, by omega, by omega, by omega, by omega, hu0, by omega⟩
  refine Ev.pos (by omega) (Ev.pos (by omega) (Ev.neg (by omega) ?_))
  have G1 := guess_first T1
  have ud := Int.ediv_le_self (z / 4294967296) hu0
  have hub : u ≤ 18446744073709551615 := by omega
  have eq1 : IntKind.u64.wrap (Int.tdiv u (z / 4294967296)) = u / (z / 4294967296) := by rw [td_pos hu0, u64w G1.q0 (by omega)]
  have er1 : IntKind.u64.wrap (u - IntKind.u64.wrap (u / (z / 4294967296) * (z / 4294967296))) = u % (z / 4294967296) := by
    have := G1.ur; have := G1.r0; have := G1.r1
    rw [u64w (x := u / (z / 4294967296) * (z / 4294967296)) (Int.mul_nonneg G1.q0 (by omega)) (by omega), u64w (by omega) (by omega)]; omega
  rw [eq1, er1]
  refine loop0 T1 z s (v % 4294967296) (fun q1 D1 => ?_) _ _ _ G1 (Nat.le_refl _)
  -- the second digit
  obtain ⟨d0, d1, d2⟩ := D1
  have dl := done_lt T1 ⟨d0, d1, d2⟩
  rw [← ez] at d1 d2
  refine Ev.succ ?_
  simp only [bits_Div64.j2]
  refine Ev.neg (by omega) ?_
  obtain ⟨X, hX⟩ : ∃ X, q1 * z = X := ⟨_, rfl⟩
  have hX0 : 0 ≤ X := by rw [← hX]; exact Int.mul_nonneg d0 (by omega)
  rw [hX] at d1 d2 ⊢
  obtain ⟨R, hR⟩ : ∃ R, u * 4294967296 + v / 4294967296 - X = R := ⟨_, rfl⟩
  have eR : IntKind.u64.wrap (IntKind.u64.wrap (IntKind.u64.wrap (u * 4294967296) + v / 4294967296) - IntKind.u64.wrap X) = R := by
    rw [u64m, u64m, u64m, u64m]; omega
  rw [eR]
  have T2 : Top R (z / 4294967296) (z % 4294967296) (v % 4294967296) := ⟨by omega, by omega, by omega, by omega, by omega, by omega, by omega, by omega⟩
  have G2 := guess_first T2
  have rd := Int.ediv_le_self (z / 4294967296) T2.u0
  have eq2 : IntKind.u64.wrap (Int.tdiv R (z / 4294967296)) = R / (z / 4294967296) := by rw [td_pos T2.u0, u64w G2.q0 (by have := T2.u1; omega)]
  have er2 : IntKind.u64.wrap (R - IntKind.u64.wrap (R / (z / 4294967296) * (z / 4294967296))) = R % (z / 4294967296) := by
    have := G2.ur; have := G2.r0; have := G2.r1; have := T2.u1
    rw [u64w (x := R / (z / 4294967296) * (z / 4294967296)) (Int.mul_nonneg G2.q0 (by omega)) (by omega), u64w (by omega) (by omega)]; omega
  rw [eq2, er2]
  refine loop1 T2 z s q1 (by omega) (f := fun q => (IntKind.u64.wrap ((IntKind.u64.wrap (q1 * 4294967296)) + q), shr .u64 (IntKind.u64.wrap ((IntKind.u64.wrap ((IntKind.u64.wrap (R * 4294967296)) + v % 4294967296)) - (IntKind.u64.wrap (q * z)))) (s : Int))) (fun _ => rfl) (fun q0 D2 => ?_) _ _ _ G2 (Nat.le_refl _)
  obtain ⟨f0, f1, f2⟩ := D2
  have fl_ := done_lt T2 ⟨f0, f1, f2⟩
  rw [← ez] at f1 f2
  obtain ⟨Z, hZ⟩ : ∃ Z, q0 * z = Z := ⟨_, rfl⟩
  rw [hZ] at f1 f2
  show (IntKind.u64.wrap ((IntKind.u64.wrap (q1 * 4294967296)) + q0), shr .u64 (IntKind.u64.wrap ((IntKind.u64.wrap ((IntKind.u64.wrap (R * 4294967296)) + v % 4294967296)) - (IntKind.u64.wrap (q0 * z)))) (s : Int)) = _
  rw [hZ, shr_s s (by omega)]
  have e1 : IntKind.u64.wrap (IntKind.u64.wrap (q1 * 4294967296) + q0) = q1 * 4294967296 + q0 := by
    rw [u64w (x := q1 * 4294967296) (by omega) (by omega), u64w (by omega) (by omega)]
  have e2 : IntKind.u64.wrap (IntKind.u64.wrap (IntKind.u64.wrap (R * 4294967296) + v % 4294967296) - IntKind.u64.wrap Z) = R * 4294967296 + v % 4294967296 - Z := by
    rw [u64m, u64m, u64m, u64m]; omega
  rw [e1, e2]
  -- back
  have whole2 : (hi * 18446744073709551616 + lo) * 2 ^ s = (q1 * 4294967296 + q0) * z + (R * 4294967296 + v % 4294967296 - Z) := by
    rw [hN, Int.add_mul, hZ, Int.mul_assoc, Int.mul_comm 4294967296, ← Int.mul_assoc, hX]; omega
  obtain ⟨N, hNN⟩ : ∃ N, hi * 18446744073709551616 + lo = N := ⟨_, rfl⟩
  obtain ⟨Q, hQ⟩ : ∃ Q, q1 * 4294967296 + q0 = Q := ⟨_, rfl⟩
  obtain ⟨W, hW⟩ : ∃ W, R * 4294967296 + v % 4294967296 - Z = W := ⟨_, rfl⟩
  rw [hNN, hQ, hW] at whole2
  rw [hNN, hQ, hW]
  have hW0 : 0 ≤ W := by omega
  have hW1 : W < z := by omega
  have eW : W = (N - Q * y) * 2 ^ s := by rw [Int.sub_mul, Int.mul_assoc, hyz]; omega
  have eWd : W / 2 ^ s = N - Q * y := by rw [eW, Int.mul_ediv_cancel _ (Int.ne_of_gt hp)]
  have r0 : 0 ≤ N - Q * y := by rw [← eWd]; exact Int.ediv_nonneg hW0 (by omega)
  have r1 : N - Q * y < y := by rw [← eWd]; exact Int.ediv_lt_of_lt_mul hp (by rw [hyz]; exact hW1)
  have un := (Int.ediv_emod_unique (a := N) (b := y) (r := N - Q * y) (q := Q) (by omega)).2 ⟨by rw [Int.mul_comm y]; omega, r0, r1⟩
  rw [un.1, un.2, eWd]
/-- One number times another one, and how often a third one is there. -/
theorem scale_ev (a b c : Int) (ha : I64 a) (hb : I64 b) (hc : I64 c) (h0 : c ≠ 0) : Ev (fun k => num_Scale.f k a b c) (out (fl (a * b) c)) := by
  have h1 := ab_bd ha
  have h2 := ab_bd hb
  have h3 := ab_bd hc
  have h4 := mul_bd h1.1 h1.2 h2.1 h2.2
  by_cases g : ab a * ab b / 18446744073709551616 < ab c
  · obtain ⟨K, hK⟩ := div64_ev (ab a * ab b / 18446744073709551616) (ab a * ab b % 18446744073709551616) (ab c) (by omega) g (by omega) (by omega) (by omega)
    refine ⟨K + 1, fun k hk => ?_⟩
    obtain ⟨m, rfl⟩ : ∃ m, k = m + 1 := ⟨k - 1, by omega⟩
    refine scale_of m a b c ha hb hc h0 fun _ => ?_
    have := hK (m + 1) (by omega)
    rwa [show ab a * ab b / 18446744073709551616 * 18446744073709551616 + ab a * ab b % 18446744073709551616 = ab a * ab b by omega] at this
  · exact Ev.at1 fun k => scale_of k a b c ha hb hc h0 fun f => absurd f g
theorem scale_zero (k : Nat) (a b : Int) : num_Scale.f k a b 0 = some (0, 11) := by
  unfold num_Scale.f
  rw [if_pos rfl]
end Go.Proofs.Ytacdejgkedcikaa.Civ
