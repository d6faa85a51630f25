/- What the functions of package num answer: sums, products, quotients of whole numbers of any size, or out of range. -/
import Derived.Test.YtgjbdojpncmmlaaQkjbhenggpj
import Derived.Test.YtgjbdojpncmmlaaQbphhhpgenm
import Derived.Test.YtgjbdojpncmmlaaQkegnhodiek
import Derived.Test.YtgjbdojpncmmlaaQoddnpjocok
import Derived.Test.YtgjbdojpncmmlaaQdiiekdoepn
import Derived.Test.YtgjbdojpncmmlaaQcjjocaoeen
import Derived.Test.YtgjbdojpncmmlaaQnepnbhhfil
import Derived.Test.YtgjbdojpncmmlaaQfiedmdiplp
import Derived.Test.YtgjbdojpncmmlaaQgbdnfccpna
import Derived.Test.YtgjbdojpncmmlaaQbaleofmigl
namespace Go.Proofs.Ytgjbdojpncmmlaa.Civ
set_option linter.unusedVariables false
set_option linter.unusedSimpArgs false
open Go.RowKit Go.Proofs.YtgjbdojpncmmlaaW.PrintWords Go.Proofs.YtgjbdojpncmmlaaW.PrintLast Go.Proofs.YtgjbdojpncmmlaaW.PrintMore Go.Proofs.Ytgjbdojpncmmlaa.P
instance (x : Int) : Decidable (I64 x) := inferInstanceAs (Decidable (_ ∧ _))
/-- A number, if it is one of 64 bits; else out of range. -/
def out (z : Int) : Int × Int := if I64 z then (z, 0) else (0, 10)
theorem out_in {z : Int} (h : I64 z) : out z = (z, 0) := if_pos h
theorem out_no {z : Int} (h : ¬ I64 z) : out z = (0, 10) := if_neg h
theorem add_eq (a b : Int) (ha : I64 a) (hb : I64 b) : num_Add.f a b = some (out (a + b)) := by
  unfold num_Add.f out
  by_cases h : I64 (a + b)
  · rw [if_pos h, w64_of h, if_neg]
    simp only [bne_iff_ne, ne_eq, Decidable.not_not]
    apply decide_eq_decide.2; omega
  · rw [if_neg h, if_pos]
    unfold I64 at *
    have hw : wrap64 (a + b) = a + b - 18446744073709551616 ∨ wrap64 (a + b) = a + b + 18446744073709551616 := by unfold wrap64; omega
    simp only [bne_iff_ne, ne_eq, decide_eq_decide]
    unfold wrap64 at *
    omega
/-- Without a sign. -/
def ab (a : Int) : Int := if a < 0 then -a else a
theorem ab_bd {a : Int} (h : I64 a) : 0 ≤ ab a ∧ ab a ≤ 9223372036854775808 := by unfold ab; unfold I64 at h; split <;> omega
theorem ab_pos {a : Int} (h : 0 ≤ a) : ab a = a := by unfold ab; rw [if_neg (by omega)]
theorem ab_neg {a : Int} (h : a < 0) : ab a = -a := by unfold ab; rw [if_pos h]
theorem size_eq (a : Int) (ha : I64 a) : num_size.f a = some (ab a) := by
  unfold num_size.f ab
  unfold I64 at ha
  by_cases h : a < 0
  · rw [if_pos h, if_pos h, u64m, u64m]; congr 1; omega
  · rw [if_neg h, if_neg h, u64m]; congr 1; omega
theorem mul_bd {x y a b : Int} (hx : 0 ≤ x) (hxa : x ≤ a) (hy : 0 ≤ y) (hyb : y ≤ b) : 0 ≤ x * y ∧ x * y ≤ a * b :=
  ⟨Int.mul_nonneg hx hy, Int.mul_le_mul hxa hyb hy (by omega)⟩
theorem mul64_eq (x y : Int) (hx : 0 ≤ x) (hx1 : x ≤ 18446744073709551615) (hy : 0 ≤ y) (hy1 : y ≤ 18446744073709551615) :
    bits_Mul64.f x y = some (x * y / 18446744073709551616, x * y % 18446744073709551616) := by
  unfold bits_Mul64.f
  rw [and32 hx hx1, and32 hy hy1]
  have ex : x = x / 4294967296 * 4294967296 + x % 4294967296 := by omega
  have ey : y = y / 4294967296 * 4294967296 + y % 4294967296 := by omega
  have bx1 : 0 ≤ x / 4294967296 ∧ x / 4294967296 ≤ 4294967295 := by omega
  have bx0 : 0 ≤ x % 4294967296 ∧ x % 4294967296 ≤ 4294967295 := by omega
  have by1 : 0 ≤ y / 4294967296 ∧ y / 4294967296 ≤ 4294967295 := by omega
  have by0 : 0 ≤ y % 4294967296 ∧ y % 4294967296 ≤ 4294967295 := by omega
  have p11 := mul_bd bx1.1 bx1.2 by1.1 by1.2
  have p10 := mul_bd bx1.1 bx1.2 by0.1 by0.2
  have p01 := mul_bd bx0.1 bx0.2 by1.1 by1.2
  have p00 := mul_bd bx0.1 bx0.2 by0.1 by0.2
  have e : x * y = x / 4294967296 * (y / 4294967296) * 18446744073709551616 + (x / 4294967296 * (y % 4294967296) + x % 4294967296 * (y / 4294967296)) * 4294967296 + x % 4294967296 * (y % 4294967296) := by
    conv => lhs; rw [ex, ey]
    simp only [Int.mul_add, Int.add_mul]
    have c1 : x / 4294967296 * 4294967296 * (y / 4294967296 * 4294967296) = x / 4294967296 * (y / 4294967296) * 18446744073709551616 := by
      rw [Int.mul_assoc, Int.mul_left_comm 4294967296, ← Int.mul_assoc (x / 4294967296)]; rfl
    have c2 : x % 4294967296 * (y / 4294967296 * 4294967296) = x % 4294967296 * (y / 4294967296) * 4294967296 := by rw [Int.mul_assoc]
    have c3 : x / 4294967296 * 4294967296 * (y % 4294967296) = x / 4294967296 * (y % 4294967296) * 4294967296 := by rw [Int.mul_assoc, Int.mul_comm 4294967296, ← Int.mul_assoc]
    rw [c1, c2, c3]; omega
  generalize x * y = P at *
  generalize x / 4294967296 * (y / 4294967296) = P11 at *
  generalize x / 4294967296 * (y % 4294967296) = P10 at *
  generalize x % 4294967296 * (y / 4294967296) = P01 at *
  generalize x % 4294967296 * (y % 4294967296) = P00 at *
  clear ex ey bx1 bx0 by1 by0 hx hx1 hy hy1
  rw [u64w (x := P11) (by omega) (by omega), u64w (x := P10) (by omega) (by omega), u64w (x := P00) (by omega) (by omega), u64w (x := P01) (by omega) (by omega)]
  have t : 0 ≤ P00 / 4294967296 ∧ P00 / 4294967296 ≤ 4294967295 := by omega
  rw [u64w (x := P10 + P00 / 4294967296) (by omega) (by omega), and32 (by omega) (by omega)]
  obtain ⟨T, hT⟩ : ∃ T, P10 + P00 / 4294967296 = T := ⟨_, rfl⟩
  rw [hT]
  rw [u64w (x := T % 4294967296 + P01) (by omega) (by omega), u64w (x := P11 + T / 4294967296) (by omega) (by omega), u64w (x := P11 + T / 4294967296 + (T % 4294967296 + P01) / 4294967296) (by omega) (by omega), u64m]
  congr 2
  omega
theorem product_eq (a b : Int) (ha : I64 a) (hb : I64 b) : num_product.f a b = some (ab a * ab b / 18446744073709551616, ab a * ab b % 18446744073709551616) := by
  have h1 := ab_bd ha
  have h2 := ab_bd hb
  unfold num_product.f
  rw [size_eq a ha, size_eq b hb]
  simp only [Option.bind_some]
  rw [mul64_eq _ _ h1.1 (by omega) h2.1 (by omega)]
  rfl
theorem signed_eq (k : Nat) (neg : Bool) (hi lo : Int) (h0 : 0 ≤ hi) (h1 : 0 ≤ lo) (h2 : lo ≤ 18446744073709551615) :
    num_signed.f (k + 1) neg hi lo = some (out (if neg = true then -(hi * 18446744073709551616 + lo) else hi * 18446744073709551616 + lo)) := by
  unfold num_signed.f
  by_cases hh : hi = 0
  · subst hh
    rw [if_pos rfl]
    cases neg with
    | true =>
      simp only [if_true, num_signed.j0]
      by_cases g : lo ≤ 9223372036854775808
      · rw [decide_eq_true g, if_pos rfl, out_in (by unfold I64; omega), u64m]
        congr 2; unfold wrap64; omega
      · rw [decide_eq_false g, if_neg (by simp), out_no (by unfold I64; omega)]
    | false =>
      simp only [num_signed.j0, Bool.false_eq_true, if_false]
      by_cases g : lo > 9223372036854775807
      · rw [if_pos g, out_no (by unfold I64; omega)]
      · rw [if_neg g, out_in (by unfold I64; omega), w64 (by omega) (by omega)]
        congr 2; omega
  · rw [if_neg hh]
    cases neg with
    | true => rw [if_pos rfl, out_no (by unfold I64; omega)]
    | false => rw [if_neg (by simp), out_no (by unfold I64; omega)]
/-- The sign of a product. -/
theorem mul_sign (a b : Int) : (if ((decide (a < 0)) != (decide (b < 0))) = true then -(ab a * ab b) else ab a * ab b) = a * b := by
  by_cases h1 : a < 0
  · by_cases h2 : b < 0
    · rw [decide_eq_true h1, decide_eq_true h2, if_neg (by simp), ab_neg h1, ab_neg h2, Int.neg_mul_neg]
    · rw [decide_eq_true h1, decide_eq_false h2, if_pos (by simp), ab_neg h1, ab_pos (by omega), Int.neg_mul, Int.neg_neg]
  · by_cases h2 : b < 0
    · rw [decide_eq_false h1, decide_eq_true h2, if_pos (by simp), ab_pos (by omega), ab_neg h2, Int.mul_neg, Int.neg_neg]
    · rw [decide_eq_false h1, decide_eq_false h2, if_neg (by simp), ab_pos (by omega), ab_pos (by omega)]
theorem mul_eq (k : Nat) (a b : Int) (ha : I64 a) (hb : I64 b) : num_Mul.f (k + 1) a b = some (out (a * b)) := by
  have h1 := ab_bd ha
  have h2 := ab_bd hb
  have h3 := mul_bd h1.1 h1.2 h2.1 h2.2
  unfold num_Mul.f
  rw [product_eq a b ha hb]
  simp only [Option.bind_some]
  rw [signed_eq _ _ _ _ (by omega) (by omega) (by omega)]
  simp only [Option.bind_some]
  rw [show ab a * ab b / 18446744073709551616 * 18446744073709551616 + ab a * ab b % 18446744073709551616 = ab a * ab b by omega, mul_sign]
/-- How often, the greatest whole number that is not above; what is left. -/
def fl (a b : Int) : Int := if b < 0 then (-a) / (-b) else a / b
def md (a b : Int) : Int := if b < 0 then -((-a) % (-b)) else a % b
theorem fl_md (a b : Int) : a = b * fl a b + md a b := by
  unfold fl md
  split
  · have := Int.mul_ediv_add_emod (-a) (-b)
    rw [Int.neg_mul] at this
    omega
  · have := Int.mul_ediv_add_emod a b
    omega
theorem fl_unique {a b q r : Int} (h : a = b * q + r) (hr : (0 ≤ r ∧ r < b) ∨ (b < r ∧ r ≤ 0)) : fl a b = q ∧ md a b = r := by
  unfold fl md
  by_cases hb : b < 0
  · rw [if_pos hb, if_pos hb]
    have := (Int.ediv_emod_unique (a := -a) (b := -b) (r := -r) (q := q) (by omega)).2 ⟨by rw [Int.neg_mul]; omega, by omega, by omega⟩
    omega
  · rw [if_neg hb, if_neg hb]
    have := (Int.ediv_emod_unique (a := a) (b := b) (r := r) (q := q) (by omega)).2 ⟨by omega, by omega, by omega⟩
    omega
theorem div64_small (k : Nat) (lo y : Int) (h0 : 0 < y) (h1 : 0 ≤ lo) (h2 : lo ≤ 18446744073709551615) : bits_Div64.f k 0 lo y = some (lo / y, lo % y) := by
  unfold bits_Div64.f
  rw [if_neg (by omega), if_neg (by omega), if_pos rfl, td_pos h1, tm_pos h1]
  have := Int.ediv_le_self y h1
  have := Int.ediv_nonneg h1 (b := y) (by omega)
  rw [u64w (by omega) (by omega)]
/-- Of a product without signs, and how often a number without a sign is there: with the signs. -/
theorem fl_signs {a b c P D : Int} (hP : ab a * ab b = P) (hD : ab c = D) (hc : c ≠ 0) :
    fl (a * b) c = if (((decide (a < 0)) != (decide (b < 0))) != (decide (c < 0))) = true then (if P % D = 0 then -(P / D) else -(P / D) - 1) else P / D := by
  have hs := mul_sign a b
  rw [hP] at hs
  have hD0 : 0 < D := by rw [← hD]; unfold ab; split <;> omega
  have e := Int.mul_ediv_add_emod P D
  have r0 := Int.emod_nonneg P (Int.ne_of_gt hD0)
  have r1 := Int.emod_lt_of_pos P hD0
  have hP0 : ((decide (a < 0)) != (decide (b < 0))) = true → a * b = -P := fun h => by rw [if_pos h] at hs; exact hs.symm
  have hP1 : ((decide (a < 0)) != (decide (b < 0))) = false → a * b = P := fun h => by rw [if_neg (by rw [h]; simp)] at hs; exact hs.symm
  generalize ((decide (a < 0)) != (decide (b < 0))) = s at *
  generalize P / D = q at *
  generalize P % D = r at *
  have em : D * (q + 1) = D * q + D := by rw [Int.mul_add, Int.mul_one]
  by_cases h3 : c < 0
  · rw [ab_neg h3] at hD
    rw [decide_eq_true h3]
    cases s with
    | true =>
      rw [if_neg (by simp), hP0 rfl]
      exact (fl_unique (r := -r) (by rw [← e, show c = -D by omega, Int.neg_mul]; omega) (by omega)).1
    | false =>
      rw [if_pos (by simp), hP1 rfl]
      by_cases hr : r = 0
      · rw [if_pos hr]
        exact (fl_unique (r := 0) (by rw [← e, show c = -D by omega, Int.neg_mul_neg]; omega) (by omega)).1
      · rw [if_neg hr]
        exact (fl_unique (r := r - D) (by rw [← e, show c = -D by omega, show -q - 1 = -(q + 1) by omega, Int.neg_mul_neg]; omega) (by omega)).1
  · rw [ab_pos (by omega)] at hD
    subst hD
    rw [decide_eq_false h3]
    cases s with
    | true =>
      rw [if_pos (by simp), hP0 rfl]
      by_cases hr : r = 0
      · rw [if_pos hr]
        exact (fl_unique (r := 0) (by rw [← e, Int.mul_neg]; omega) (by omega)).1
      · rw [if_neg hr]
        exact (fl_unique (r := c - r) (by rw [← e, show -q - 1 = -(q + 1) by omega, Int.mul_neg]; omega) (by omega)).1
    | false =>
      rw [if_neg (by simp), hP1 rfl]
      exact (fl_unique (r := r) (by omega) (by omega)).1
theorem add64_eq (x : Int) (h0 : 0 ≤ x) : bits_Add64.f x 1 0 = some ((x + 1) % 18446744073709551616, (x + 1) / 18446744073709551616) := by
  unfold bits_Add64.f
  rw [if_pos h0, if_pos (by omega), if_pos (by omega), if_pos (by omega), Int.add_zero]
/-- One number times another one, and how often a third one is there: if the division of 128 bits by 64 is as it is. -/
theorem scale_of (k : Nat) (a b c : Int) (ha : I64 a) (hb : I64 b) (hc : I64 c) (h0 : c ≠ 0)
    (hd : ab a * ab b / 18446744073709551616 < ab c → bits_Div64.f (k + 1) (ab a * ab b / 18446744073709551616) (ab a * ab b % 18446744073709551616) (ab c) = some (ab a * ab b / ab c, ab a * ab b % ab c)) :
    num_Scale.f (k + 1) a b c = some (out (fl (a * b) c)) := by
  have h1 := ab_bd ha
  have h2 := ab_bd hb
  have h3 := ab_bd hc
  have h4 := mul_bd h1.1 h1.2 h2.1 h2.2
  have hD0 : 0 < ab c := by unfold ab; split <;> omega
  rw [fl_signs rfl rfl h0]
  unfold num_Scale.f
  rw [if_neg h0, product_eq a b ha hb, size_eq c hc]
  simp only [Option.bind_some]
  generalize hP : ab a * ab b = P at *
  generalize hD : ab c = D at *
  have e := Int.mul_ediv_add_emod P D
  have r0 := Int.emod_nonneg P (Int.ne_of_gt hD0)
  have r1 := Int.emod_lt_of_pos P hD0
  have q0 : 0 ≤ P / D := Int.ediv_nonneg h4.1 (by omega)
  by_cases hl : P / 18446744073709551616 ≥ D
  · rw [if_pos hl]
    have hq : 18446744073709551616 ≤ P / D := by
      rw [Int.le_ediv_iff_mul_le hD0]; omega
    split
    · split
      · rw [out_no (by unfold I64; omega)]
      · rw [out_no (by unfold I64; omega)]
    · rw [out_no (by unfold I64; omega)]
  · rw [if_neg hl, hd (by omega)]
    simp only [Option.bind_some]
    have hq : P / D < 18446744073709551616 := Int.ediv_lt_of_lt_mul hD0 (by omega)
    generalize P / D = q at *
    generalize P % D = r at *
    by_cases hs : (((decide (a < 0)) != (decide (b < 0))) != (decide (c < 0))) = true
    · rw [if_pos hs, if_pos hs, hs]
      by_cases hr : r = 0
      · rw [if_pos hr, if_pos hr, signed_eq _ _ _ _ (by omega) (by omega) (by omega), if_pos rfl]
        simp only [Option.bind_some]
        rw [show (0 : Int) * 18446744073709551616 + q = q by omega]
      · rw [if_neg hr, if_neg hr, add64_eq _ q0]
        simp only [Option.bind_some]
        rw [signed_eq _ _ _ _ (by omega) (by omega) (by omega), if_pos rfl]
        simp only [Option.bind_some]
        rw [show (q + 1) / 18446744073709551616 * 18446744073709551616 + (q + 1) % 18446744073709551616 = q + 1 by omega, show -(q + 1) = -q - 1 by omega]
    · rw [if_neg hs, if_neg hs, signed_eq _ _ _ _ (by omega) (by omega) (by omega), if_neg hs]
      simp only [Option.bind_some]
      rw [show (0 : Int) * 18446744073709551616 + q = q by omega]
theorem div_eq (k : Nat) (a c : Int) (ha : I64 a) (hc : I64 c) (h0 : c ≠ 0) : num_Div.f (k + 1) a c = some (out (fl a c)) := by
  have h1 := ab_bd ha
  have h3 := ab_bd hc
  have hD0 : 0 < ab c := by unfold ab; split <;> omega
  unfold num_Div.f
  rw [scale_of k a 1 c ha (by unfold I64; omega) hc h0 (fun _ => ?_)]
  · simp only [Option.bind_some, Int.mul_one]
  · rw [ab_pos (a := 1) (by omega), Int.mul_one, show ab a / 18446744073709551616 = 0 by omega, show ab a % 18446744073709551616 = ab a by omega]
    exact div64_small _ _ _ hD0 h1.1 (by omega)
theorem mod_eq (a b : Int) (ha : I64 a) (hb : I64 b) (h0 : b ≠ 0) : num_Mod.f a b = some (md a b, 0) := by
  unfold num_Mod.f
  rw [if_neg h0]
  by_cases h1 : b = -1
  · rw [if_pos h1]
    have : md a b = 0 := by unfold md; rw [if_pos (by omega), h1]; simp
    rw [this]
  rw [if_neg h1]
  unfold I64 at hb
  by_cases hs : b < 0
  · -- the remainder of a cut division has the sign of a
    have e : Int.tmod a b = Int.tmod a (-b) := by rw [Int.tmod_neg]
    have c := cut_floor a (b := -b) (by omega)
    have g1 := Int.emod_nonneg a (b := -b) (by omega)
    have g2 := Int.emod_lt_of_pos a (b := -b) (by omega)
    have e2 : md a b = if a % (-b) = 0 then 0 else a % (-b) + b := by
      have d := Int.mul_ediv_add_emod a (-b)
      split
      · rename_i hz
        exact (fl_unique (q := -(a / -b)) (by rw [Int.mul_neg, ← Int.neg_mul]; omega) (by omega)).2
      · exact (fl_unique (q := -(a / -b) - 1) (by rw [show -(a / -b) - 1 = -((a / -b) + 1) by omega, Int.mul_neg, ← Int.neg_mul, Int.mul_add]; omega) (by omega)).2
    rw [e, e2]
    by_cases hn : Int.tmod a (-b) < 0
    · obtain ⟨c1, c2, c3⟩ := c.1 hn
      rw [if_neg (by omega), if_neg (show ¬ a % (-b) = 0 by omega), decide_eq_true hn, decide_eq_true hs, if_neg (by simp)]
      congr 2; omega
    · obtain ⟨c1, c2⟩ := c.2 hn
      rw [c2]
      by_cases hz : a % (-b) = 0
      · rw [if_pos hz, if_pos hz, hz]
      · rw [if_neg hz, if_neg hz, decide_eq_false (show ¬ a % (-b) < 0 by omega), decide_eq_true hs, if_pos (by simp), w64 (by omega) (by omega)]
  · have c := cut_floor a (b := b) (by omega)
    have g1 := Int.emod_nonneg a (b := b) (by omega)
    have g2 := Int.emod_lt_of_pos a (b := b) (by omega)
    have e2 : md a b = a % b := by unfold md; rw [if_neg hs]
    rw [e2]
    by_cases hn : Int.tmod a b < 0
    · obtain ⟨c1, c2, c3⟩ := c.1 hn
      rw [if_neg (by omega), decide_eq_true hn, decide_eq_false hs, if_pos (by simp), w64 (by omega) (by omega)]
      congr 2; omega
    · obtain ⟨c1, c2⟩ := c.2 hn
      rw [c2]
      by_cases hz : a % b = 0
      · rw [if_pos hz]
      · rw [if_neg hz, decide_eq_false (show ¬ a % b < 0 by omega), decide_eq_false hs, if_neg (by simp)]
theorem fl_pos {a b : Int} (h : 0 < b) : fl a b = a / b := by unfold fl; rw [if_neg (by omega)]
theorem md_pos {a b : Int} (h : 0 < b) : md a b = a % b := by unfold md; rw [if_neg (by omega)]
theorem fl_bd {a b : Int} (ha : I64 a) (hb : b ≠ 0) : I64 (fl a b) ∨ (b = -1 ∧ a = -9223372036854775808) := by
  unfold fl
  split
  · rename_i h
    by_cases h1 : b = -1
    · subst h1
      show I64 ((-a) / 1) ∨ _
      rw [Int.ediv_one]
      unfold I64 at *
      omega
    · left
      unfold I64 at *
      have e := Int.mul_ediv_add_emod (-a) (-b)
      have g1 := Int.emod_nonneg (-a) (b := -b) (by omega)
      have g2 := Int.emod_lt_of_pos (-a) (b := -b) (by omega)
      constructor
      · rw [Int.le_ediv_iff_mul_le (by omega)]
        have : -9223372036854775808 * -b ≤ -9223372036854775808 * 1 := Int.mul_le_mul_of_nonpos_left (by omega) (by omega)
        omega
      · rcases Int.lt_or_le (-a) 0 with g | g
        · have : (-a) / (-b) < 0 := Int.ediv_lt_of_lt_mul (by omega) (by omega)
          omega
        · have h3 : (-a) / (-b) ≤ (-a) / 2 := by
            rw [Int.le_ediv_iff_mul_le (by omega)]
            have h5 : 0 ≤ (-a) / (-b) := Int.ediv_nonneg g (by omega)
            have h6 : (-a) / (-b) * 2 ≤ (-a) / (-b) * -b := Int.mul_le_mul_of_nonneg_left (by omega) h5
            rw [Int.mul_comm (-b)] at e
            omega
          omega
  · left
    have := ediv_i64 (b := b) ha (by omega)
    exact this
theorem split_eq (k : Nat) (us : Int) (h : I64 us) : num_Split.f (k + 1) us = some (us / 86400000000, us % 86400000000) := by
  unfold num_Split.f
  have hc : I64 86400000000 := by unfold I64; omega
  rw [div_eq k us 86400000000 h hc (by omega), mod_eq us 86400000000 h hc (by omega), fl_pos (by omega), md_pos (by omega), out_in (ediv_i64 h (by omega))]
  rfl
end Go.Proofs.Ytgjbdojpncmmlaa.Civ
