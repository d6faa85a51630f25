import Derived.Test.YtimgphlfaninnaaGreatQoobaoafdnj
namespace Go.Proofs.YtimgphlfaninnaaGreat.P
open Go.RowKit Go.Proofs.YtimgphlfaninnaaGreatW.PrintWords Go.Proofs.YtimgphlfaninnaaGreatW.PrintLast Go.Proofs.YtimgphlfaninnaaGreatW.PrintMore
set_option linter.unusedVariables false
set_option linter.unusedSimpArgs false
def wdVal (l : List Int) : Int := match l with
 | [a, b, c, d, e, f] => a + 4294967296 * (b + 4294967296 * (c + 4294967296 * (d + 4294967296 * (e + 4294967296 * f))))
 | _ => 0
def wdDig (n : Int) : List Int := [n % 4294967296, n / 4294967296 % 4294967296, n / 4294967296 / 4294967296 % 4294967296, n / 4294967296 / 4294967296 / 4294967296 % 4294967296, n / 4294967296 / 4294967296 / 4294967296 / 4294967296 % 4294967296, n / 4294967296 / 4294967296 / 4294967296 / 4294967296 / 4294967296 % 4294967296]
noncomputable def wdOk (l : List Int) : Bool := match l with
 | [a, b, c, d, e, f] => @decide (0 ≤ a ∧ a < 4294967296 ∧ 0 ≤ b ∧ b < 4294967296 ∧ 0 ≤ c ∧ c < 4294967296 ∧ 0 ≤ d ∧ d < 4294967296 ∧ 0 ≤ e ∧ e < 4294967296 ∧ 0 ≤ f ∧ f < 4294967296) (Classical.propDecidable _)
 | _ => false
open A in
def wdRead (c : Nat → Nat → AV) : Option (List Int) := match c 0 0, c 1 0, c 2 0, c 3 0, c 4 0, c 5 0 with
 | .int .u64 x0, .int .u64 x1, .int .u64 x2, .int .u64 x3, .int .u64 x4, .int .u64 x5 => some [x0, x1, x2, x3, x4, x5]
 | _, _, _, _, _, _ => none
open A in
def wdRow (l : List Int) : AV := .nu 155 1 6 (match l with
 | [a, b, c, d, e, f] => [.int .u64 a, .int .u64 b, .int .u64 c, .int .u64 d, .int .u64 e, .int .u64 f]
 | _ => [])
open A in
def wdArg (l : List Int) : AV := .csl 1 6 (fun i _ => .int .u64 (l.getD i 0))
def adW (c x y : Int) : Int := IntKind.wrap .u64 (IntKind.wrap .u64 (c + x) + y)
def adC (s : Int) : Int := Int.fdiv s (2 ^ min (Int.toNat 32) (IntKind.bits .u64))
def adM (s : Int) : Int := IntKind.wrap .u64 ((BitVec.toNat (BitVec.ofInt (IntKind.bits .u64) s &&& BitVec.ofInt (IntKind.bits .u64) 4294967295) : Nat) : Int)
def ad0 (x y : List Int) : Int := adW 0 (x.getD 0 0) (y.getD 0 0)
def ad1 (x y : List Int) : Int := adW (adC (ad0 x y)) (x.getD 1 0) (y.getD 1 0)
def ad2 (x y : List Int) : Int := adW (adC (ad1 x y)) (x.getD 2 0) (y.getD 2 0)
def ad3 (x y : List Int) : Int := adW (adC (ad2 x y)) (x.getD 3 0) (y.getD 3 0)
def ad4 (x y : List Int) : Int := adW (adC (ad3 x y)) (x.getD 4 0) (y.getD 4 0)
def ad5 (x y : List Int) : Int := adW (adC (ad4 x y)) (x.getD 5 0) (y.getD 5 0)
open A in
@[irreducible] def wdP (T : Tab) (g : Nat) (args : List AV) (K : AV → Prop) : Prop := afn PA Tryz.prog T noLoops 10 g args fun u h => K (toNu h 4 u)
open A in
set_option maxRecDepth 100000 in
theorem wdAdd_vc (x0 x1 x2 x3 x4 x5 y0 y1 y2 y3 y4 y5 : Int) (K : AV → Prop) : wdP (tab []) 133 [wdArg [x0, x1, x2, x3, x4, x5], wdArg [y0, y1, y2, y3, y4, y5]] K =
 K (wdRow [adM (ad0 [x0, x1, x2, x3, x4, x5] [y0, y1, y2, y3, y4, y5]), adM (ad1 [x0, x1, x2, x3, x4, x5] [y0, y1, y2, y3, y4, y5]), adM (ad2 [x0, x1, x2, x3, x4, x5] [y0, y1, y2, y3, y4, y5]), adM (ad3 [x0, x1, x2, x3, x4, x5] [y0, y1, y2, y3, y4, y5]), adM (ad4 [x0, x1, x2, x3, x4, x5] [y0, y1, y2, y3, y4, y5]), adM (ad5 [x0, x1, x2, x3, x4, x5] [y0, y1, y2, y3, y4, y5])]) := by kernel_rfl
theorem wd_u64 (x : Int) (h : 0 ≤ x ∧ x < 18446744073709551616) : IntKind.wrap .u64 x = x := by
 have : IntKind.wrap .u64 x = x % 18446744073709551616 := by simp [IntKind.wrap, IntKind.bits, IntKind.signed]
 omega
theorem adW_eq {c x y : Int} (hc : 0 ≤ c ∧ c ≤ 1) (hx : 0 ≤ x ∧ x < 4294967296) (hy : 0 ≤ y ∧ y < 4294967296) : adW c x y = c + x + y := by
 unfold adW
 rw [wd_u64 (c + x) (by omega), wd_u64 _ (by omega)]
theorem adC_eq {s : Int} : adC s = s / 4294967296 := by
 unfold adC
 have : (2 : Int) ^ min (Int.toNat 32) (IntKind.bits .u64) = 4294967296 := by decide
 rw [this, Int.fdiv_eq_ediv_of_nonneg _ (by omega)]
theorem adM_eq {s : Int} (h : 0 ≤ s ∧ s < 18446744073709551616) : adM s = s % 4294967296 := by
 have e : adM s = Go.bits .and .u64 s 4294967295 := by rfl
 rw [e]
 exact bits_mask .u64 64 (by decide) (fun n h0 h1 => wd_u64 n (by omega)) 32 (by decide) s h.1 (by omega)
theorem wd_step (p q : Int) : (p + 4294967296 * q) % 4294967296 = p % 4294967296 ∧ (p + 4294967296 * q) / 4294967296 = p / 4294967296 + q := by omega
theorem wd_chain (s0 s1 s2 s3 s4 s5 t1 t2 t3 t4 t5 : Int) (h1 : s1 = s0 / 4294967296 + t1) (h2 : s2 = s1 / 4294967296 + t2) (h3 : s3 = s2 / 4294967296 + t3) (h4 : s4 = s3 / 4294967296 + t4) (h5 : s5 = s4 / 4294967296 + t5) :
 wdDig (s0 + 4294967296 * (t1 + 4294967296 * (t2 + 4294967296 * (t3 + 4294967296 * (t4 + 4294967296 * t5))))) = [s0 % 4294967296, s1 % 4294967296, s2 % 4294967296, s3 % 4294967296, s4 % 4294967296, s5 % 4294967296] := by
 have e1 : (s0 + 4294967296 * (t1 + 4294967296 * (t2 + 4294967296 * (t3 + 4294967296 * (t4 + 4294967296 * t5))))) / 4294967296 = s1 + 4294967296 * (t2 + 4294967296 * (t3 + 4294967296 * (t4 + 4294967296 * t5))) := by rw [(wd_step _ _).2]; omega
 have e2 : (s1 + 4294967296 * (t2 + 4294967296 * (t3 + 4294967296 * (t4 + 4294967296 * t5)))) / 4294967296 = s2 + 4294967296 * (t3 + 4294967296 * (t4 + 4294967296 * t5)) := by rw [(wd_step _ _).2]; omega
 have e3 : (s2 + 4294967296 * (t3 + 4294967296 * (t4 + 4294967296 * t5))) / 4294967296 = s3 + 4294967296 * (t4 + 4294967296 * t5) := by rw [(wd_step _ _).2]; omega
 have e4 : (s3 + 4294967296 * (t4 + 4294967296 * t5)) / 4294967296 = s4 + 4294967296 * t5 := by rw [(wd_step _ _).2]; omega
 have e5 : (s4 + 4294967296 * t5) / 4294967296 = s5 := by rw [(wd_step _ _).2]; omega
 unfold wdDig
 rw [e1, e2, e3, e4, e5, (wd_step _ _).1, (wd_step _ _).1, (wd_step _ _).1, (wd_step _ _).1, (wd_step _ _).1]
theorem wdOk_iff {a b c d e f : Int} : wdOk [a, b, c, d, e, f] = true ↔ (0 ≤ a ∧ a < 4294967296 ∧ 0 ≤ b ∧ b < 4294967296 ∧ 0 ≤ c ∧ c < 4294967296 ∧ 0 ≤ d ∧ d < 4294967296 ∧ 0 ≤ e ∧ e < 4294967296 ∧ 0 ≤ f ∧ f < 4294967296) :=
 ⟨fun h => @of_decide_eq_true _ (Classical.propDecidable _) h, fun h => @decide_eq_true _ (Classical.propDecidable _) h⟩
theorem wdOk_zero : wdOk [0, 0, 0, 0, 0, 0] = true := wdOk_iff.2 (by omega)
theorem wd_six {l : List Int} (h : wdOk l = true) : ∃ a b c d e f, l = [a, b, c, d, e, f] ∧ (0 ≤ a ∧ a < 4294967296) ∧ (0 ≤ b ∧ b < 4294967296) ∧ (0 ≤ c ∧ c < 4294967296) ∧ (0 ≤ d ∧ d < 4294967296) ∧ (0 ≤ e ∧ e < 4294967296) ∧ (0 ≤ f ∧ f < 4294967296) := by
 unfold wdOk at h
 split at h
 · have h := wdOk_iff.1 h
   exact ⟨_, _, _, _, _, _, rfl, by omega, by omega, by omega, by omega, by omega, by omega⟩
 · cases h
theorem wdAdd_dig {x y : List Int} (hx : wdOk x = true) (hy : wdOk y = true) : [adM (ad0 x y), adM (ad1 x y), adM (ad2 x y), adM (ad3 x y), adM (ad4 x y), adM (ad5 x y)] = wdDig (wdVal x + wdVal y) := by
 obtain ⟨x0, x1, x2, x3, x4, x5, rfl, a0, a1, a2, a3, a4, a5⟩ := wd_six hx
 obtain ⟨y0, y1, y2, y3, y4, y5, rfl, b0, b1, b2, b3, b4, b5⟩ := wd_six hy
 have s0 : ad0 [x0, x1, x2, x3, x4, x5] [y0, y1, y2, y3, y4, y5] = x0 + y0 := by
  show adW 0 x0 y0 = _
  rw [adW_eq (by omega) a0 b0]; omega
 have s1 : ad1 [x0, x1, x2, x3, x4, x5] [y0, y1, y2, y3, y4, y5] = (x0 + y0) / 4294967296 + (x1 + y1) := by
  show adW (adC (ad0 [x0, x1, x2, x3, x4, x5] [y0, y1, y2, y3, y4, y5])) x1 y1 = _
  rw [s0, adC_eq, adW_eq (by omega) a1 b1]; omega
 generalize hs1 : (x0 + y0) / 4294967296 + (x1 + y1) = z1 at s1
 have s2 : ad2 [x0, x1, x2, x3, x4, x5] [y0, y1, y2, y3, y4, y5] = z1 / 4294967296 + (x2 + y2) := by
  show adW (adC (ad1 [x0, x1, x2, x3, x4, x5] [y0, y1, y2, y3, y4, y5])) x2 y2 = _
  rw [s1, adC_eq, adW_eq (by omega) a2 b2]; omega
 generalize hs2 : z1 / 4294967296 + (x2 + y2) = z2 at s2
 have s3 : ad3 [x0, x1, x2, x3, x4, x5] [y0, y1, y2, y3, y4, y5] = z2 / 4294967296 + (x3 + y3) := by
  show adW (adC (ad2 [x0, x1, x2, x3, x4, x5] [y0, y1, y2, y3, y4, y5])) x3 y3 = _
  rw [s2, adC_eq, adW_eq (by omega) a3 b3]; omega
 generalize hs3 : z2 / 4294967296 + (x3 + y3) = z3 at s3
 have s4 : ad4 [x0, x1, x2, x3, x4, x5] [y0, y1, y2, y3, y4, y5] = z3 / 4294967296 + (x4 + y4) := by
  show adW (adC (ad3 [x0, x1, x2, x3, x4, x5] [y0, y1, y2, y3, y4, y5])) x4 y4 = _
  rw [s3, adC_eq, adW_eq (by omega) a4 b4]; omega
 generalize hs4 : z3 / 4294967296 + (x4 + y4) = z4 at s4
 have s5 : ad5 [x0, x1, x2, x3, x4, x5] [y0, y1, y2, y3, y4, y5] = z4 / 4294967296 + (x5 + y5) := by
  show adW (adC (ad4 [x0, x1, x2, x3, x4, x5] [y0, y1, y2, y3, y4, y5])) x5 y5 = _
  rw [s4, adC_eq, adW_eq (by omega) a5 b5]; omega
 generalize hs5 : z4 / 4294967296 + (x5 + y5) = z5 at s5
 rw [s0, s1, s2, s3, s4, s5, adM_eq (by omega), adM_eq (by omega), adM_eq (by omega), adM_eq (by omega), adM_eq (by omega), adM_eq (by omega)]
 rw [← wd_chain (x0 + y0) z1 z2 z3 z4 z5 (x1 + y1) (x2 + y2) (x3 + y3) (x4 + y4) (x5 + y5) hs1.symm hs2.symm hs3.symm hs4.symm hs5.symm]
 congr 1
 show _ = (x0 + 4294967296 * (x1 + 4294967296 * (x2 + 4294967296 * (x3 + 4294967296 * (x4 + 4294967296 * x5))))) + (y0 + 4294967296 * (y1 + 4294967296 * (y2 + 4294967296 * (y3 + 4294967296 * (y4 + 4294967296 * y5)))))
 omega
open A in
theorem wd_canon {w : World} {c : Nat → Nat → AV} {V : Value} {l : List Int} (h : RV noNames w (.csl 1 6 c) V) (hc : wdRead c = some l) : RV noNames w (wdArg l) V := by
 unfold wdRead at hc
 split at hc
 case h_2 => cases hc
 rename_i h0 h1 h2 h3 h4 h5
 simp at hc; subst hc
 cases h with
 | csl s len cap c U hb hl hcell hr =>
 refine .csl 1 6 cap _ U hb hl hcell fun i j hi hj => ?_
 obtain rfl : j = 0 := by omega
 match i, hi with
 | 0, _ => have := hr 0 0 (by omega) (by omega); rw [h0] at this; exact this
 | 1, _ => have := hr 1 0 (by omega) (by omega); rw [h1] at this; exact this
 | 2, _ => have := hr 2 0 (by omega) (by omega); rw [h2] at this; exact this
 | 3, _ => have := hr 3 0 (by omega) (by omega); rw [h3] at this; exact this
 | 4, _ => have := hr 4 0 (by omega) (by omega); rw [h4] at this; exact this
 | 5, _ => have := hr 5 0 (by omega) (by omega); rw [h5] at this; exact this
open A in
theorem wdAdd_hq {x y : List Int} (hx : wdOk x = true) (hy : wdOk y = true) : wdP (tab []) 133 [wdArg x, wdArg y] (fun u => u = wdRow (wdDig (wdVal x + wdVal y))) := by
 have hd := wdAdd_dig hx hy
 obtain ⟨x0, x1, x2, x3, x4, x5, rfl, _⟩ := wd_six hx
 obtain ⟨y0, y1, y2, y3, y4, y5, rfl, _⟩ := wd_six hy
 rw [wdAdd_vc, hd]
def lsW (c x y : Int) : Int := IntKind.wrap .u64 (IntKind.wrap .u64 (IntKind.wrap .u64 (x + 4294967296) - y) - c)
def lsC (n : Int) : Int := IntKind.wrap .u64 (1 - Int.fdiv n (2 ^ min (Int.toNat 32) (IntKind.bits .u64)))
def ls0 (x y : List Int) : Int := lsW 0 (x.getD 0 0) (y.getD 0 0)
def ls1 (x y : List Int) : Int := lsW (lsC (ls0 x y)) (x.getD 1 0) (y.getD 1 0)
def ls2 (x y : List Int) : Int := lsW (lsC (ls1 x y)) (x.getD 2 0) (y.getD 2 0)
def ls3 (x y : List Int) : Int := lsW (lsC (ls2 x y)) (x.getD 3 0) (y.getD 3 0)
def ls4 (x y : List Int) : Int := lsW (lsC (ls3 x y)) (x.getD 4 0) (y.getD 4 0)
def ls5 (x y : List Int) : Int := lsW (lsC (ls4 x y)) (x.getD 5 0) (y.getD 5 0)
open A in
set_option maxRecDepth 100000 in
theorem wdLess_vc (x0 x1 x2 x3 x4 x5 y0 y1 y2 y3 y4 y5 : Int) (K : AV → Prop) : wdP (tab []) 135 [wdArg [x0, x1, x2, x3, x4, x5], wdArg [y0, y1, y2, y3, y4, y5]] K =
 K (wdRow [adM (ls0 [x0, x1, x2, x3, x4, x5] [y0, y1, y2, y3, y4, y5]), adM (ls1 [x0, x1, x2, x3, x4, x5] [y0, y1, y2, y3, y4, y5]), adM (ls2 [x0, x1, x2, x3, x4, x5] [y0, y1, y2, y3, y4, y5]), adM (ls3 [x0, x1, x2, x3, x4, x5] [y0, y1, y2, y3, y4, y5]), adM (ls4 [x0, x1, x2, x3, x4, x5] [y0, y1, y2, y3, y4, y5]), adM (ls5 [x0, x1, x2, x3, x4, x5] [y0, y1, y2, y3, y4, y5])]) := by kernel_rfl
theorem lsW_eq {c x y : Int} (hc : 0 ≤ c ∧ c ≤ 1) (hx : 0 ≤ x ∧ x < 4294967296) (hy : 0 ≤ y ∧ y < 4294967296) : lsW c x y = x + 4294967296 - y - c := by
 unfold lsW
 rw [wd_u64 (x + 4294967296) (by omega), wd_u64 (x + 4294967296 - y) (by omega), wd_u64 _ (by omega)]
theorem lsC_eq {n : Int} (h : 0 ≤ n ∧ n < 8589934592) : lsC n = 1 - n / 4294967296 := by
 have e := adC_eq (s := n)
 unfold adC at e
 unfold lsC
 rw [e, wd_u64 _ (by omega)]
theorem wdLess_dig {x y : List Int} (hx : wdOk x = true) (hy : wdOk y = true) : [adM (ls0 x y), adM (ls1 x y), adM (ls2 x y), adM (ls3 x y), adM (ls4 x y), adM (ls5 x y)] = wdDig (wdVal x - wdVal y) := by
 obtain ⟨x0, x1, x2, x3, x4, x5, rfl, a0, a1, a2, a3, a4, a5⟩ := wd_six hx
 obtain ⟨y0, y1, y2, y3, y4, y5, rfl, b0, b1, b2, b3, b4, b5⟩ := wd_six hy
 have s0 : ls0 [x0, x1, x2, x3, x4, x5] [y0, y1, y2, y3, y4, y5] = x0 - y0 + 4294967296 := by
  show lsW 0 x0 y0 = _
  rw [lsW_eq (by omega) a0 b0]; omega
 generalize hs0 : x0 - y0 = z0 at s0
 have s1 : ls1 [x0, x1, x2, x3, x4, x5] [y0, y1, y2, y3, y4, y5] = z0 / 4294967296 + (x1 - y1) + 4294967296 := by
  show lsW (lsC (ls0 [x0, x1, x2, x3, x4, x5] [y0, y1, y2, y3, y4, y5])) x1 y1 = _
  rw [s0, lsC_eq (by omega), lsW_eq (by omega) a1 b1]; omega
 generalize hs1 : z0 / 4294967296 + (x1 - y1) = z1 at s1
 have s2 : ls2 [x0, x1, x2, x3, x4, x5] [y0, y1, y2, y3, y4, y5] = z1 / 4294967296 + (x2 - y2) + 4294967296 := by
  show lsW (lsC (ls1 [x0, x1, x2, x3, x4, x5] [y0, y1, y2, y3, y4, y5])) x2 y2 = _
  rw [s1, lsC_eq (by omega), lsW_eq (by omega) a2 b2]; omega
 generalize hs2 : z1 / 4294967296 + (x2 - y2) = z2 at s2
 have s3 : ls3 [x0, x1, x2, x3, x4, x5] [y0, y1, y2, y3, y4, y5] = z2 / 4294967296 + (x3 - y3) + 4294967296 := by
  show lsW (lsC (ls2 [x0, x1, x2, x3, x4, x5] [y0, y1, y2, y3, y4, y5])) x3 y3 = _
  rw [s2, lsC_eq (by omega), lsW_eq (by omega) a3 b3]; omega
 generalize hs3 : z2 / 4294967296 + (x3 - y3) = z3 at s3
 have s4 : ls4 [x0, x1, x2, x3, x4, x5] [y0, y1, y2, y3, y4, y5] = z3 / 4294967296 + (x4 - y4) + 4294967296 := by
  show lsW (lsC (ls3 [x0, x1, x2, x3, x4, x5] [y0, y1, y2, y3, y4, y5])) x4 y4 = _
  rw [s3, lsC_eq (by omega), lsW_eq (by omega) a4 b4]; omega
 generalize hs4 : z3 / 4294967296 + (x4 - y4) = z4 at s4
 have s5 : ls5 [x0, x1, x2, x3, x4, x5] [y0, y1, y2, y3, y4, y5] = z4 / 4294967296 + (x5 - y5) + 4294967296 := by
  show lsW (lsC (ls4 [x0, x1, x2, x3, x4, x5] [y0, y1, y2, y3, y4, y5])) x5 y5 = _
  rw [s4, lsC_eq (by omega), lsW_eq (by omega) a5 b5]; omega
 generalize hs5 : z4 / 4294967296 + (x5 - y5) = z5 at s5
 have m : ∀ z : Int, -4294967296 ≤ z → z < 4294967296 → adM (z + 4294967296) = z % 4294967296 := fun z h1 h2 => by
  rw [adM_eq (by omega)]; omega
 rw [s0, s1, s2, s3, s4, s5, m _ (by omega) (by omega), m _ (by omega) (by omega), m _ (by omega) (by omega), m _ (by omega) (by omega), m _ (by omega) (by omega), m _ (by omega) (by omega)]
 rw [← wd_chain z0 z1 z2 z3 z4 z5 (x1 - y1) (x2 - y2) (x3 - y3) (x4 - y4) (x5 - y5) hs1.symm hs2.symm hs3.symm hs4.symm hs5.symm]
 congr 1
 show _ = (x0 + 4294967296 * (x1 + 4294967296 * (x2 + 4294967296 * (x3 + 4294967296 * (x4 + 4294967296 * x5))))) - (y0 + 4294967296 * (y1 + 4294967296 * (y2 + 4294967296 * (y3 + 4294967296 * (y4 + 4294967296 * y5)))))
 omega
open A in
theorem wdLess_hq {x y : List Int} (hx : wdOk x = true) (hy : wdOk y = true) : wdP (tab []) 135 [wdArg x, wdArg y] (fun u => u = wdRow (wdDig (wdVal x - wdVal y))) := by
 have hd := wdLess_dig hx hy
 obtain ⟨x0, x1, x2, x3, x4, x5, rfl, _⟩ := wd_six hx
 obtain ⟨y0, y1, y2, y3, y4, y5, rfl, _⟩ := wd_six hy
 rw [wdLess_vc, hd]
def wdSgn (a b : Int) : Int := if a < b then -1 else if b < a then 1 else 0
open A in
def wdC3 (x y : Int) (K : AV → Prop) (R : Prop) : Prop := brc (decide (x < y)) (K (.int .i64 (-1))) (brc (decide (x > y)) (K (.int .i64 1)) R)
open A in
set_option maxRecDepth 100000 in
theorem wdCmp_vc (x0 x1 x2 x3 x4 x5 y0 y1 y2 y3 y4 y5 : Int) (K : AV → Prop) : wdP (tab []) 134 [wdArg [x0, x1, x2, x3, x4, x5], wdArg [y0, y1, y2, y3, y4, y5]] K =
 wdC3 x5 y5 K (wdC3 x4 y4 K (wdC3 x3 y3 K (wdC3 x2 y2 K (wdC3 x1 y1 K (wdC3 x0 y0 K (K (.int .i64 0))))))) := by kernel_rfl
open A in
theorem wdC3_ok {x y : Int} {r : Int} {R : Prop} (h1 : x < y → r = -1) (h2 : y < x → r = 1) (h3 : x = y → R) : wdC3 x y (fun u => u = .int .i64 r) R := by
 unfold wdC3
 refine brc_intro (fun h => ?_) fun h => brc_intro (fun g => ?_) fun g => ?_
 · rw [h1 (of_decide_eq_true h)]
 · rw [h2 (of_decide_eq_true g)]
 · have := of_decide_eq_false h
   have := of_decide_eq_false g
   exact h3 (by omega)
open A in
theorem wdCmp_hq {x y : List Int} (hx : wdOk x = true) (hy : wdOk y = true) : wdP (tab []) 134 [wdArg x, wdArg y] (fun u => u = .int .i64 (wdSgn (wdVal x) (wdVal y))) := by
 obtain ⟨x0, x1, x2, x3, x4, x5, rfl, a0, a1, a2, a3, a4, a5⟩ := wd_six hx
 obtain ⟨y0, y1, y2, y3, y4, y5, rfl, b0, b1, b2, b3, b4, b5⟩ := wd_six hy
 rw [wdCmp_vc]
 have ex : wdVal [x0, x1, x2, x3, x4, x5] = x0 + 4294967296 * (x1 + 4294967296 * (x2 + 4294967296 * (x3 + 4294967296 * (x4 + 4294967296 * x5)))) := rfl
 have ey : wdVal [y0, y1, y2, y3, y4, y5] = y0 + 4294967296 * (y1 + 4294967296 * (y2 + 4294967296 * (y3 + 4294967296 * (y4 + 4294967296 * y5)))) := rfl
 generalize wdVal [x0, x1, x2, x3, x4, x5] = a at *
 generalize wdVal [y0, y1, y2, y3, y4, y5] = b at *
 have lo : a < b → wdSgn a b = -1 := fun h => if_pos h
 have hi : b < a → wdSgn a b = 1 := fun h => by unfold wdSgn; rw [if_neg (by omega), if_pos h]
 refine wdC3_ok (fun h => lo (by omega)) (fun h => hi (by omega)) fun e5 => ?_
 refine wdC3_ok (fun h => lo (by omega)) (fun h => hi (by omega)) fun e4 => ?_
 refine wdC3_ok (fun h => lo (by omega)) (fun h => hi (by omega)) fun e3 => ?_
 refine wdC3_ok (fun h => lo (by omega)) (fun h => hi (by omega)) fun e2 => ?_
 refine wdC3_ok (fun h => lo (by omega)) (fun h => hi (by omega)) fun e1 => ?_
 refine wdC3_ok (fun h => lo (by omega)) (fun h => hi (by omega)) fun e0 => ?_
 have : a = b := by omega
 rw [this]
 show AV.int .i64 0 = AV.int .i64 (wdSgn b b)
 unfold wdSgn
 rw [if_neg (by omega), if_neg (by omega)]
open A in
def wdArgW (s : Bool) (l : List Int) : AV := .agg [.bool s, wdArg l]
def wdAb (v : Int) : Int := if v < 0 then -v else v
open A in
def wdW (v : Int) : AV := .agg [.bool (decide (v < 0)), wdRow (wdDig (wdAb v))]
open A in
def wd1R (f : List Int → Bool × AV) : Con
 | [.csl z n c] => if z = 1 ∧ n = 6 then (match wdRead c with
  | some l => some (f l)
  | _ => none) else none
 | _ => none
open A in
def wd2R (f : List Int → List Int → Bool × AV) : Con
 | [.csl z n c, .csl z' n' d] => if z = 1 ∧ n = 6 ∧ z' = 1 ∧ n' = 6 then (match wdRead c, wdRead d with
  | some l, some m => some (f l m)
  | _, _ => none) else none
 | _ => none
open A in
def wd1W (f : Bool → List Int → Bool × AV) : Con
 | [.agg [.bool s, .csl z n c]] => if z = 1 ∧ n = 6 then (match wdRead c with
  | some l => some (f s l)
  | _ => none) else none
 | _ => none
open A in
def wd2W (f : Bool → List Int → Bool → List Int → Bool × AV) : Con
 | [.agg [.bool s, .csl z n c], .agg [.bool t, .csl z' n' d]] => if z = 1 ∧ n = 6 ∧ z' = 1 ∧ n' = 6 then (match wdRead c, wdRead d with
  | some l, some m => some (f s l t m)
  | _, _ => none) else none
 | _ => none
open A in
theorem wd_gives {T : Tab} (hT : TabOk Tryz.prog T) {g : Nat} (hn : (Tryz.prog.funcs[g]?).any (fun fn => !(fn.name == "runtime.NumGoroutine")) = true) {args : List AV} {A : List Value} {w : World} (hA : RL noNames w args A) {r : Bool × AV} {p : Bool} {v : AV} (e : r = (p, v)) (hp : p = true)
 (h : r.1 = true → r.2.okN 4 = true ∧ wdP T g args fun u => u = r.2) : Gives Tryz.prog g A.toArray w fun V w' => (RV noNames w' v V ∧ Below w.heap.size w w') ∧ Fr w.heap.size 4 v V := by
 subst e
 obtain ⟨h1, h2⟩ := h hp
 refine givesN_ok mixed hT hn (ltOk_none Tryz.prog g) (n := 10) h1 ?_ hA
 unfold wdP at h2
 with_reducible exact h2
open A in
theorem wd1R_ok {T : Tab} (hT : TabOk Tryz.prog T) {g : Nat} (hn : (Tryz.prog.funcs[g]?).any (fun fn => !(fn.name == "runtime.NumGoroutine")) = true) {f : List Int → Bool × AV}
 (h : ∀ l, (f l).1 = true → (f l).2.okN 4 = true ∧ wdP T g [wdArg l] fun u => u = (f l).2) : COk Tryz.prog g (wd1R f) := by
 intro args p v hc hp w A hA
 unfold wd1R at hc
 split at hc
 case h_2 => cases hc
 split at hc
 case isFalse => cases hc
 rename_i hs
 obtain ⟨rfl, rfl⟩ := hs
 split at hc
 case h_2 => cases hc
 rename_i l hl0
 simp only [kG, kK] at hA
 obtain ⟨V0, _, rfl, hV0, rfl⟩ := hA
 exact wd_gives hT hn (.cons (wd_canon hV0 hl0) .nil) (Option.some.inj hc) hp (h _)
open A in
theorem wd2R_ok {T : Tab} (hT : TabOk Tryz.prog T) {g : Nat} (hn : (Tryz.prog.funcs[g]?).any (fun fn => !(fn.name == "runtime.NumGoroutine")) = true) {f : List Int → List Int → Bool × AV}
 (h : ∀ l m, (f l m).1 = true → (f l m).2.okN 4 = true ∧ wdP T g [wdArg l, wdArg m] fun u => u = (f l m).2) : COk Tryz.prog g (wd2R f) := by
 intro args p v hc hp w A hA
 unfold wd2R at hc
 split at hc
 case h_2 => cases hc
 split at hc
 case isFalse => cases hc
 rename_i hs
 obtain ⟨rfl, rfl, rfl, rfl⟩ := hs
 split at hc
 case h_2 => cases hc
 rename_i l m hl0 hl1
 simp only [kG, kK] at hA
 obtain ⟨V0, _, rfl, hV0, V1, _, rfl, hV1, rfl⟩ := hA
 exact wd_gives hT hn (.cons (wd_canon hV0 hl0) (.cons (wd_canon hV1 hl1) .nil)) (Option.some.inj hc) hp (h _ _)
open A in
theorem wd1W_ok {T : Tab} (hT : TabOk Tryz.prog T) {g : Nat} (hn : (Tryz.prog.funcs[g]?).any (fun fn => !(fn.name == "runtime.NumGoroutine")) = true) {f : Bool → List Int → Bool × AV}
 (h : ∀ s l, (f s l).1 = true → (f s l).2.okN 4 = true ∧ wdP T g [wdArgW s l] fun u => u = (f s l).2) : COk Tryz.prog g (wd1W f) := by
 intro args p v hc hp w A hA
 unfold wd1W at hc
 split at hc
 case h_2 => cases hc
 split at hc
 case isFalse => cases hc
 rename_i hs
 obtain ⟨rfl, rfl⟩ := hs
 split at hc
 case h_2 => cases hc
 rename_i l hl0
 simp only [kG, kK, kM, kH] at hA
 obtain ⟨_, _, rfl, ⟨_, rfl, _, _, rfl, rfl, V0, _, rfl, hV0, rfl⟩, rfl⟩ := hA
 exact wd_gives hT hn (.cons (.agg (.cons (.bool _) (.cons (wd_canon hV0 hl0) .nil))) .nil) (Option.some.inj hc) hp (h _ _)
open A in
theorem wd2W_ok {T : Tab} (hT : TabOk Tryz.prog T) {g : Nat} (hn : (Tryz.prog.funcs[g]?).any (fun fn => !(fn.name == "runtime.NumGoroutine")) = true) {f : Bool → List Int → Bool → List Int → Bool × AV}
 (h : ∀ s l t m, (f s l t m).1 = true → (f s l t m).2.okN 4 = true ∧ wdP T g [wdArgW s l, wdArgW t m] fun u => u = (f s l t m).2) : COk Tryz.prog g (wd2W f) := by
 intro args p v hc hp w A hA
 unfold wd2W at hc
 split at hc
 case h_2 => cases hc
 split at hc
 case isFalse => cases hc
 rename_i hs
 obtain ⟨rfl, rfl, rfl, rfl⟩ := hs
 split at hc
 case h_2 => cases hc
 rename_i l m hl0 hl1
 simp only [kG, kK, kM, kH] at hA
 obtain ⟨_, _, rfl, ⟨_, rfl, _, _, rfl, rfl, V0, _, rfl, hV0, rfl⟩, _, _, rfl, ⟨_, rfl, _, _, rfl, rfl, V1, _, rfl, hV1, rfl⟩, rfl⟩ := hA
 exact wd_gives hT hn (.cons (.agg (.cons (.bool _) (.cons (wd_canon hV0 hl0) .nil))) (.cons (.agg (.cons (.bool _) (.cons (wd_canon hV1 hl1) .nil))) .nil)) (Option.some.inj hc) hp (h _ _ _ _)
open A in
noncomputable def wdAdd : Con := wd2R fun l m => (wdOk l && wdOk m, wdRow (wdDig (wdVal l + wdVal m)))
open A in
noncomputable def wdLess : Con := wd2R fun l m => (wdOk l && wdOk m, wdRow (wdDig (wdVal l - wdVal m)))
open A in
noncomputable def wdCmp : Con := wd2R fun l m => (wdOk l && wdOk m, .int .i64 (wdSgn (wdVal l) (wdVal m)))
open A in
noncomputable def wdZero : Con := wd1R fun l => (wdOk l, .bool (decide (wdVal l = 0)))
theorem wd_and {a b : Bool} (h : (a && b) = true) : a = true ∧ b = true := by simpa using h
open A in
theorem wdAdd_ok : COk Tryz.prog 133 wdAdd := wd2R_ok jV (by kernel_rfl) fun l m h => ⟨rfl, wdAdd_hq (wd_and h).1 (wd_and h).2⟩
open A in
theorem wdLess_ok : COk Tryz.prog 135 wdLess := wd2R_ok jV (by kernel_rfl) fun l m h => ⟨rfl, wdLess_hq (wd_and h).1 (wd_and h).2⟩
open A in
theorem wdCmp_ok : COk Tryz.prog 134 wdCmp := wd2R_ok jV (by kernel_rfl) fun l m h => ⟨rfl, wdCmp_hq (wd_and h).1 (wd_and h).2⟩
open A in
noncomputable def wdT : Tab := tab [(133, wdAdd), (135, wdLess), (134, wdCmp)]
open A in
theorem wdT_ok : TabOk Tryz.prog wdT := kP wdAdd_ok (kP wdLess_ok (kP wdCmp_ok jV))
open A in
set_option maxRecDepth 100000 in
theorem wdZero_vc (x0 x1 x2 x3 x4 x5 : Int) (K : AV → Prop) : wdP wdT 136 [wdArg [x0, x1, x2, x3, x4, x5]] K =
 brc (wdOk [x0, x1, x2, x3, x4, x5] && wdOk [0, 0, 0, 0, 0, 0]) (∀ m : Int, m = wdSgn (wdVal [x0, x1, x2, x3, x4, x5]) (wdVal [0, 0, 0, 0, 0, 0]) → K (.bool (m == 0))) False := by kernel_rfl
open A in
theorem wd_brc {b : Bool} {X Y : Prop} (h : b = true) (a : X) : brc b X Y := by subst h; exact a
open A in
theorem wd_brn {b : Bool} {X Y : Prop} (h : b = false) (a : Y) : brc b X Y := by subst h; exact a
theorem wdSgn_zero (a : Int) : (wdSgn a 0 == 0) = decide (a = 0) := by
 unfold wdSgn
 split
 · rw [decide_eq_false (by omega)]; rfl
 · split
   · rw [decide_eq_false (by omega)]; rfl
   · rw [decide_eq_true (by omega)]; rfl
open A in
theorem wdZero_ok : COk Tryz.prog 136 wdZero := wd1R_ok wdT_ok (by kernel_rfl) fun l h => ⟨rfl, by
 have hl := h
 obtain ⟨x0, x1, x2, x3, x4, x5, rfl, _⟩ := wd_six hl
 rw [wdZero_vc]
 refine wd_brc (by rw [show wdOk [x0, x1, x2, x3, x4, x5] = true from hl, wdOk_iff.2 (show 0 ≤ (0 : Int) ∧ (0 : Int) < 4294967296 ∧ _ by omega)]; rfl) ?_
 rintro _ rfl
 show AV.bool (wdSgn (wdVal [x0, x1, x2, x3, x4, x5]) 0 == 0) = AV.bool (decide (wdVal [x0, x1, x2, x3, x4, x5] = 0))
 rw [wdSgn_zero]⟩
theorem wd_val {n : Int} (h : 0 ≤ n ∧ n < 6277101735386680763835789423207666416102355444464034512896) : wdVal (wdDig n) = n := by
 unfold wdDig wdVal
 simp only
 omega
theorem wd_okd (n : Int) : wdOk (wdDig n) = true := by
 unfold wdDig
 exact wdOk_iff.2 (by omega)
def wdMean (s : Bool) (l : List Int) : Int := if s = true then -wdVal l else wdVal l
def wdNz (s : Bool) (l : List Int) : Bool := !s || decide (wdVal l ≠ 0)
theorem wd_ab {v : Int} (h : -6277101735386680763835789423207666416102355444464034512896 < v ∧ v < 6277101735386680763835789423207666416102355444464034512896) :
 wdVal (wdDig (wdAb v)) = wdAb v ∧ wdMean (decide (v < 0)) (wdDig (wdAb v)) = v ∧ wdNz (decide (v < 0)) (wdDig (wdAb v)) = true := by
 have e : wdVal (wdDig (wdAb v)) = wdAb v := wd_val (by unfold wdAb; split <;> omega)
 refine ⟨e, ?_, ?_⟩
 · unfold wdMean; rw [e]; unfold wdAb
   by_cases g : v < 0
   · rw [if_pos (decide_eq_true g), if_pos g]; omega
   · rw [if_neg (by simpa using g), if_neg g]
 · unfold wdNz; rw [e]; unfold wdAb
   by_cases g : v < 0
   · rw [decide_eq_true g, if_pos g, decide_eq_true (by omega)]; rfl
   · rw [decide_eq_false g]; rfl
open A in
noncomputable def wdR (b : Bool) (n : Int) (C : List Int → Prop) : Prop := brc b (∀ m0 : Int, m0 = n % 4294967296 → ∀ m1 : Int, m1 = n / 4294967296 % 4294967296 → ∀ m2 : Int, m2 = n / 4294967296 / 4294967296 % 4294967296 → ∀ m3 : Int, m3 = n / 4294967296 / 4294967296 / 4294967296 % 4294967296 → ∀ m4 : Int, m4 = n / 4294967296 / 4294967296 / 4294967296 / 4294967296 % 4294967296 → ∀ m5 : Int, m5 = n / 4294967296 / 4294967296 / 4294967296 / 4294967296 / 4294967296 % 4294967296 → C [m0, m1, m2, m3, m4, m5]) False
theorem wdR_ok {b : Bool} {n : Int} {C : List Int → Prop} (hb : b = true) (h : C (wdDig n)) : wdR b n C := by
 unfold wdR
 refine wd_brc hb ?_
 rintro _ rfl _ rfl _ rfl _ rfl _ rfl _ rfl
 exact h
open A in
noncomputable def wdQ (b : Bool) (v : Int) (C : Bool → List Int → Prop) : Prop := brc b (∀ s : Bool, s = decide (v < 0) → ∀ m0 : Int, m0 = wdAb v % 4294967296 → ∀ m1 : Int, m1 = wdAb v / 4294967296 % 4294967296 → ∀ m2 : Int, m2 = wdAb v / 4294967296 / 4294967296 % 4294967296 → ∀ m3 : Int, m3 = wdAb v / 4294967296 / 4294967296 / 4294967296 % 4294967296 → ∀ m4 : Int, m4 = wdAb v / 4294967296 / 4294967296 / 4294967296 / 4294967296 % 4294967296 → ∀ m5 : Int, m5 = wdAb v / 4294967296 / 4294967296 / 4294967296 / 4294967296 / 4294967296 % 4294967296 → C s [m0, m1, m2, m3, m4, m5]) False
theorem wdQ_ok {b : Bool} {v : Int} {C : Bool → List Int → Prop} (hb : b = true) (h : C (decide (v < 0)) (wdDig (wdAb v))) : wdQ b v C := by
 unfold wdQ
 refine wd_brc hb ?_
 rintro _ rfl _ rfl _ rfl _ rfl _ rfl _ rfl _ rfl
 exact h
def wdIn (n : Int) : Bool := decide (-9223372036854775808 ≤ n ∧ n ≤ 9223372036854775807)
open A in
noncomputable def wdOf : Con
 | [.int .i64 n] => some (wdIn n, wdW n)
 | _ => none
def ofHi (u : Int) : Int := Int.fdiv u (2 ^ 32)
open A in
def ofRow (u : Int) : AV := wdRow [adM u, ofHi u, 0, 0, 0, 0]
open A in
set_option maxRecDepth 100000 in
theorem wdOf_vc (n : Int) (K : AV → Prop) : wdP (tab []) 98 [.int .i64 n] K =
 brc (decide (n < 0)) (K (.agg [.bool (decide (n < 0)), ofRow (IntKind.wrap .u64 (0 - IntKind.wrap .u64 n))])) (K (.agg [.bool (decide (n < 0)), ofRow (IntKind.wrap .u64 n)])) := by kernel_rfl
theorem wd_u64m (x : Int) : IntKind.wrap .u64 x = x % 18446744073709551616 := by simp [IntKind.wrap, IntKind.bits, IntKind.signed]
open A in
theorem ofRow_eq {u : Int} (h : 0 ≤ u ∧ u < 18446744073709551616) : ofRow u = wdRow (wdDig u) := by
 unfold ofRow
 congr 1
 rw [adM_eq h]
 have : ofHi u = u / 4294967296 := adC_eq
 rw [this]
 have e1 : u / 4294967296 / 4294967296 = 0 := by omega
 have e2 : u / 4294967296 % 4294967296 = u / 4294967296 := by omega
 unfold wdDig
 rw [e1, e2]
 rfl
open A in
theorem wdOf_ok : COk Tryz.prog 98 wdOf := by
 intro args p v hc hp w A hA
 unfold wdOf at hc
 split at hc
 case h_2 => cases hc
 rename_i n
 simp only [kG, kK, kL] at hA
 obtain ⟨_, _, rfl, rfl, rfl⟩ := hA
 refine wd_gives jV (by kernel_rfl) (.cons (.int _ _) .nil) (Option.some.inj hc) hp fun h => ⟨rfl, ?_⟩
 have h : wdIn n = true := h
 unfold wdIn at h
 have h := of_decide_eq_true h
 rw [wdOf_vc]
 refine brc_intro (fun g => ?_) fun g => ?_
 · have g := of_decide_eq_true g
   have e : IntKind.wrap .u64 (0 - IntKind.wrap .u64 n) = wdAb n := by
    rw [wd_u64m, wd_u64m]; unfold wdAb; rw [if_pos g]; omega
   rw [e, ofRow_eq (by unfold wdAb; rw [if_pos g]; omega)]
   rfl
 · have g := of_decide_eq_false g
   have e : IntKind.wrap .u64 n = wdAb n := by
    rw [wd_u64m]; unfold wdAb; rw [if_neg g]; omega
   rw [e, ofRow_eq (by unfold wdAb; rw [if_neg g]; omega)]
   rfl
noncomputable def wdPlusC (s : Bool) (l : List Int) (t : Bool) (m : List Int) : Bool := wdOk l && wdOk m && (wdNz s l && wdNz t m)
open A in
noncomputable def wdPlus : Con := wd2W fun s l t m => (wdPlusC s l t m, wdW (wdMean s l + wdMean t m))
open A in
set_option maxRecDepth 100000 in
theorem wdPlus_vc (s t : Bool) (x0 x1 x2 x3 x4 x5 y0 y1 y2 y3 y4 y5 : Int) (K : AV → Prop) : wdP wdT 97 [wdArgW s [x0, x1, x2, x3, x4, x5], wdArgW t [y0, y1, y2, y3, y4, y5]] K =
 brc (s == t) (wdR (wdOk [x0, x1, x2, x3, x4, x5] && wdOk [y0, y1, y2, y3, y4, y5]) (wdVal [x0, x1, x2, x3, x4, x5] + wdVal [y0, y1, y2, y3, y4, y5]) fun r => K (.agg [.bool s, wdRow r]))
  (brc (wdOk [x0, x1, x2, x3, x4, x5] && wdOk [y0, y1, y2, y3, y4, y5]) (∀ z : Int, z = wdSgn (wdVal [x0, x1, x2, x3, x4, x5]) (wdVal [y0, y1, y2, y3, y4, y5]) → brc (decide (z ≥ 0))
   (brc s (brc (wdOk [x0, x1, x2, x3, x4, x5] && wdOk [y0, y1, y2, y3, y4, y5]) (∀ y : Int, y = wdSgn (wdVal [x0, x1, x2, x3, x4, x5]) (wdVal [y0, y1, y2, y3, y4, y5]) → wdR (wdOk [x0, x1, x2, x3, x4, x5] && wdOk [y0, y1, y2, y3, y4, y5]) (wdVal [x0, x1, x2, x3, x4, x5] - wdVal [y0, y1, y2, y3, y4, y5]) fun r => K (.agg [.bool (decide (y > 0)), wdRow r])) False)
    (wdR (wdOk [x0, x1, x2, x3, x4, x5] && wdOk [y0, y1, y2, y3, y4, y5]) (wdVal [x0, x1, x2, x3, x4, x5] - wdVal [y0, y1, y2, y3, y4, y5]) fun r => K (.agg [.bool false, wdRow r])))
   (wdR (wdOk [y0, y1, y2, y3, y4, y5] && wdOk [x0, x1, x2, x3, x4, x5]) (wdVal [y0, y1, y2, y3, y4, y5] - wdVal [x0, x1, x2, x3, x4, x5]) fun r => K (.agg [.bool t, wdRow r]))) False) := by kernel_rfl
theorem wdVal_pos {l : List Int} (h : wdOk l = true) : 0 ≤ wdVal l ∧ wdVal l < 6277101735386680763835789423207666416102355444464034512896 := by
 obtain ⟨x0, x1, x2, x3, x4, x5, rfl, _⟩ := wd_six h
 unfold wdVal
 simp only
 omega
theorem wdSgn_ge {a b : Int} : wdSgn a b ≥ 0 ↔ b ≤ a := by unfold wdSgn; split <;> (try split) <;> omega
theorem wdSgn_gt {a b : Int} : wdSgn a b > 0 ↔ b < a := by unfold wdSgn; split <;> (try split) <;> omega
open A in
theorem wdW_eq {s : Bool} {n v : Int} (hs : s = decide (v < 0)) (hn : n = wdAb v) : AV.agg [.bool s, wdRow (wdDig n)] = wdW v := by subst hs hn; rfl
open A in
theorem wdPlus_ok : COk Tryz.prog 97 wdPlus := wd2W_ok wdT_ok (by kernel_rfl) fun s l t m h => ⟨rfl, by
 have h : (wdOk l && wdOk m && (wdNz s l && wdNz t m)) = true := h
 obtain ⟨ho, hz⟩ := wd_and h
 obtain ⟨hl, hm⟩ := wd_and ho
 obtain ⟨h1, h2⟩ := wd_and hz
 obtain ⟨x0, x1, x2, x3, x4, x5, rfl, _⟩ := wd_six hl
 obtain ⟨y0, y1, y2, y3, y4, y5, rfl, _⟩ := wd_six hm
 have pl := wdVal_pos hl
 have pm := wdVal_pos hm
 have hr : (wdOk [y0, y1, y2, y3, y4, y5] && wdOk [x0, x1, x2, x3, x4, x5]) = true := by rw [hl, hm]; rfl
 show wdP _ _ _ fun u => u = wdW (wdMean s [x0, x1, x2, x3, x4, x5] + wdMean t [y0, y1, y2, y3, y4, y5])
 rw [wdPlus_vc]
 unfold wdNz at h1 h2
 unfold wdMean
 generalize wdVal [x0, x1, x2, x3, x4, x5] = a at *
 generalize wdVal [y0, y1, y2, y3, y4, y5] = b at *
 refine brc_intro (fun g => ?_) fun g => ?_
 · have g : s = t := by simpa using g
   subst g
   refine wdR_ok ho (wdW_eq ?_ ?_)
   · cases s
     · exact (decide_eq_false (by simp; omega)).symm
     · simp at h1 h2; exact (decide_eq_true (by simp; omega)).symm
   · unfold wdAb; cases s
     · rw [if_neg (by simp; omega)]; simp
     · simp only [if_true]; split <;> omega
 · refine wd_brc ho ?_
   rintro _ rfl
   refine brc_intro (fun q => ?_) fun q => ?_
   · have q := wdSgn_ge.1 (of_decide_eq_true q)
     refine brc_intro (fun e => ?_) fun e => ?_
     · subst e
       obtain rfl : t = false := by simpa using g
       refine wd_brc ho ?_
       rintro _ rfl
       refine wdR_ok ho (wdW_eq ?_ ?_)
       · simp only [if_true, Bool.false_eq_true, if_false]
         by_cases k : b < a
         · rw [decide_eq_true (wdSgn_gt.2 k), decide_eq_true (by omega)]
         · rw [decide_eq_false (fun z => k (wdSgn_gt.1 z)), decide_eq_false (by omega)]
       · unfold wdAb; simp only [if_true, Bool.false_eq_true, if_false]; split <;> omega
     · subst e
       obtain rfl : t = true := by simpa using g
       refine wdR_ok ho (wdW_eq ?_ ?_)
       · simp only [if_true, Bool.false_eq_true, if_false]
         rw [decide_eq_false (by omega)]
       · unfold wdAb; simp only [if_true, Bool.false_eq_true, if_false]; split <;> omega
   · have q : a < b := by
      have := of_decide_eq_false q
      rcases Int.lt_or_le a b with z | z
      · exact z
      · exact absurd (wdSgn_ge.2 z) this
     refine wdR_ok hr (wdW_eq ?_ ?_)
     · cases s <;> cases t <;> simp at g ⊢ <;> omega
     · unfold wdAb; cases s <;> cases t <;> simp at g ⊢ <;> split <;> omega⟩
def wdOut (x : Int) : Int × Int := if -9223372036854775808 ≤ x ∧ x ≤ 9223372036854775807 then (x, 0) else (0, 10)
open A in
noncomputable def wdSmall : Con := wd1W fun s l => (wdOk l, .tup [.int .i64 (wdOut (wdMean s l)).1, .int .i64 (wdOut (wdMean s l)).2])
def smU (x0 x1 : Int) : Int := IntKind.wrap .u64 ((BitVec.toNat (BitVec.ofInt (IntKind.bits .u64) (IntKind.wrap .u64 (x1 * 2 ^ min (Int.toNat 32) (IntKind.bits .u64))) ||| BitVec.ofInt (IntKind.bits .u64) x0) : Nat) : Int)
open A in
def smK (K : AV → Prop) (a b : Int) : Prop := K (.tup [.int .i64 a, .int .i64 b])
open A in
def smE (K : AV → Prop) (s : Bool) (u : Int) : Prop := brc s (smK K 0 10) (brc (decide (u ≥ 9223372036854775808)) (smK K 0 10) (smK K (IntKind.wrap .i64 u) 0))
open A in
set_option maxRecDepth 100000 in
theorem wdSmall_vc (s : Bool) (x0 x1 x2 x3 x4 x5 : Int) (K : AV → Prop) : wdP (tab []) 96 [wdArgW s [x0, x1, x2, x3, x4, x5]] K =
 brc (x2 != 0) (smK K 0 10) (brc (x3 != 0) (smK K 0 10) (brc (x4 != 0) (smK K 0 10) (brc (x5 != 0) (smK K 0 10) (brc s (brc (decide (smU x0 x1 ≤ 9223372036854775808)) (smK K (IntKind.wrap .i64 (IntKind.wrap .u64 (0 - smU x0 x1))) 0) (smE K s (smU x0 x1))) (smE K s (smU x0 x1)))))) := by kernel_rfl
theorem smU_eq {x y : Int} (hx : 0 ≤ x ∧ x < 4294967296) (hy : 0 ≤ y ∧ y < 4294967296) : smU x y = x + 4294967296 * y := by
 have e : smU x y = Go.bits .or .u64 (IntKind.wrap .u64 (y * 4294967296)) x := by rfl
 rw [e, wd_u64 _ (by omega)]
 have := bits_join .u64 64 (by decide) (fun n h0 h1 => wd_u64 n (by omega)) 32 (y * 4294967296) x (by omega) (by omega) (by omega) hx.1 (by omega) (by omega)
 rw [this]; omega
open A in
theorem wd_i64 {x : Int} : IntKind.wrap .i64 x = (x + 9223372036854775808) % 18446744073709551616 - 9223372036854775808 := by
 have e := wrap_i64 x
 rw [e]; unfold wrap64; omega
theorem wdOut_no {x : Int} (h : ¬ (-9223372036854775808 ≤ x ∧ x ≤ 9223372036854775807)) : wdOut x = (0, 10) := if_neg h
theorem wdOut_in {x : Int} (h : -9223372036854775808 ≤ x ∧ x ≤ 9223372036854775807) : wdOut x = (x, 0) := if_pos h
open A in
theorem wdSmall_ok : COk Tryz.prog 96 wdSmall := wd1W_ok jV (by kernel_rfl) fun s l h => ⟨rfl, by
 obtain ⟨x0, x1, x2, x3, x4, x5, rfl, a0, a1, a2, a3, a4, a5⟩ := wd_six (show wdOk l = true from h)
 show wdP _ _ _ fun u => u = .tup [.int .i64 (wdOut (wdMean s [x0, x1, x2, x3, x4, x5])).1, .int .i64 (wdOut (wdMean s [x0, x1, x2, x3, x4, x5])).2]
 rw [wdSmall_vc]
 have ev : wdVal [x0, x1, x2, x3, x4, x5] = x0 + 4294967296 * (x1 + 4294967296 * (x2 + 4294967296 * (x3 + 4294967296 * (x4 + 4294967296 * x5)))) := rfl
 have no : 18446744073709551616 ≤ wdVal [x0, x1, x2, x3, x4, x5] → smK (fun u => u = AV.tup [.int .i64 (wdOut (wdMean s [x0, x1, x2, x3, x4, x5])).1, .int .i64 (wdOut (wdMean s [x0, x1, x2, x3, x4, x5])).2]) 0 10 := fun g => by
  rw [wdOut_no (by unfold wdMean; split <;> omega)]; rfl
 refine brc_intro (fun g => no (by simp at g; omega)) fun g2 => brc_intro (fun g => no (by simp at g; omega)) fun g3 => brc_intro (fun g => no (by simp at g; omega)) fun g4 => brc_intro (fun g => no (by simp at g; omega)) fun g5 => ?_
 simp at g2 g3 g4 g5
 rw [smU_eq a0 a1]
 have eu : wdVal [x0, x1, x2, x3, x4, x5] = x0 + 4294967296 * x1 := by rw [ev, g2, g3, g4, g5]; omega
 have hu : 0 ≤ x0 + 4294967296 * x1 ∧ x0 + 4294967296 * x1 < 18446744073709551616 := by omega
 clear no ev
 unfold wdMean
 rw [eu]
 generalize x0 + 4294967296 * x1 = u at *
 refine brc_intro (fun e => ?_) fun e => ?_
 · subst e
   simp only [if_true]
   refine brc_intro (fun q => ?_) fun q => ?_
   · have q := of_decide_eq_true q
     rw [wdOut_in (by omega)]
     show AV.tup [.int .i64 _, .int .i64 0] = AV.tup [.int .i64 (-u), .int .i64 0]
     rw [show IntKind.wrap .i64 (IntKind.wrap .u64 (0 - u)) = -u by rw [wd_u64m, wd_i64]; omega]
   · have q := of_decide_eq_false q
     refine wd_brc rfl ?_
     rw [wdOut_no (by omega)]; rfl
 · subst e
   refine wd_brn rfl (brc_intro (fun q => ?_) fun q => ?_)
   · have q := of_decide_eq_true q
     rw [wdOut_no (by simp; omega)]; rfl
   · have q := of_decide_eq_false q
     simp only [Bool.false_eq_true, if_false]
     rw [wdOut_in (by omega)]
     show AV.tup [.int .i64 _, .int .i64 0] = AV.tup [.int .i64 u, .int .i64 0]
     rw [show IntKind.wrap .i64 u = u by rw [wd_i64]; omega]⟩
def tm0 (a b0 : Int) : Int := IntKind.wrap .u64 (0 + IntKind.wrap .u64 (a * b0))
def tmN (s a b : Int) : Int := IntKind.wrap .u64 (adC s + IntKind.wrap .u64 (a * b))
def tmR (a b0 b1 b2 : Int) : List Int := [adM (tm0 a b0), adM (tmN (tm0 a b0) a b1), adM (tmN (tmN (tm0 a b0) a b1) a b2)]
open A in
noncomputable def wdTimes : Con := wd2W fun s l t m => (wdOk l && wdOk m && (decide (wdVal l < 18446744073709551616) && decide (wdVal m < 18446744073709551616)), wdW (wdMean s l * wdMean t m))
open A in
noncomputable def wdTT : Tab := tab [(133, wdAdd), (136, wdZero)]
open A in
theorem wdTT_ok : TabOk Tryz.prog wdTT := kP wdAdd_ok (kP wdZero_ok jV)
def tm_0 (x y : List Int) : List Int := tmR (x.getD 0 0) (y.getD 0 0) (y.getD 1 0) (y.getD 2 0) ++ [0, 0, 0]
def tm_1 (x y : List Int) : List Int := 0 :: tmR (x.getD 1 0) (y.getD 0 0) (y.getD 1 0) (y.getD 2 0) ++ [0, 0]
open A in
set_option maxRecDepth 100000 in
theorem wdTimes_vc (s t : Bool) (x0 x1 x2 x3 x4 x5 y0 y1 y2 y3 y4 y5 : Int) (K : AV → Prop) : wdP wdTT 111 [wdArgW s [x0, x1, x2, x3, x4, x5], wdArgW t [y0, y1, y2, y3, y4, y5]] K =
 wdR (wdOk [0, 0, 0, 0, 0, 0] && wdOk (tm_0 [x0, x1, x2, x3, x4, x5] [y0, y1, y2, y3, y4, y5])) (wdVal [0, 0, 0, 0, 0, 0] + wdVal (tm_0 [x0, x1, x2, x3, x4, x5] [y0, y1, y2, y3, y4, y5])) fun r => wdR (wdOk r && wdOk (tm_1 [x0, x1, x2, x3, x4, x5] [y0, y1, y2, y3, y4, y5])) (wdVal r + wdVal (tm_1 [x0, x1, x2, x3, x4, x5] [y0, y1, y2, y3, y4, y5])) fun r =>
  brc (!s == t) (brc (wdOk r) (∀ z : Bool, z = decide (wdVal r = 0) → K (.agg [.bool (!z), wdRow r])) False) (K (.agg [.bool false, wdRow r])) := by kernel_rfl
theorem wd_mul {a b : Int} (ha : 0 ≤ a ∧ a < 4294967296) (hb : 0 ≤ b ∧ b < 4294967296) : 0 ≤ a * b ∧ a * b ≤ 18446744065119617025 :=
 ⟨Int.mul_nonneg ha.1 hb.1, Int.le_trans (Int.mul_le_mul (show a ≤ 4294967295 by omega) (show b ≤ 4294967295 by omega) hb.1 (by omega)) (by decide)⟩
theorem tmR_eq {a b0 b1 : Int} (ha : 0 ≤ a ∧ a < 4294967296) (h0 : 0 ≤ b0 ∧ b0 < 4294967296) (h1 : 0 ≤ b1 ∧ b1 < 4294967296) :
 ∃ d0 d1 d2, tmR a b0 b1 0 = [d0, d1, d2] ∧ (0 ≤ d0 ∧ d0 < 4294967296) ∧ (0 ≤ d1 ∧ d1 < 4294967296) ∧ (0 ≤ d2 ∧ d2 < 4294967296) ∧ d0 + 4294967296 * (d1 + 4294967296 * d2) = a * (b0 + 4294967296 * b1) := by
 have p0 := wd_mul ha h0
 have p1 := wd_mul ha h1
 have e : a * (b0 + 4294967296 * b1) = a * b0 + 4294967296 * (a * b1) := by rw [Int.mul_add, Int.mul_left_comm]
 rw [e]
 unfold tmR
 have z0 : tm0 a b0 = a * b0 := by unfold tm0; rw [wd_u64 (a * b0) (by omega), wd_u64 _ (by omega)]; omega
 rw [z0]
 have z1 : tmN (a * b0) a b1 = a * b0 / 4294967296 + a * b1 := by unfold tmN; rw [adC_eq, wd_u64 (a * b1) (by omega), wd_u64 _ (by omega)]
 rw [z1]
 generalize a * b0 = p at *
 generalize a * b1 = q at *
 have z2 : tmN (p / 4294967296 + q) a 0 = (p / 4294967296 + q) / 4294967296 := by unfold tmN; rw [adC_eq, Int.mul_zero, wd_u64 0 (by omega), wd_u64 _ (by omega)]; omega
 rw [z2, adM_eq (by omega), adM_eq (by omega), adM_eq (by omega)]
 exact ⟨_, _, _, rfl, by omega, by omega, by omega, by omega⟩
theorem wd_sign (s t : Bool) (a b : Int) : (if s = true then -a else a) * (if t = true then -b else b) = if (!s == t) = true then -(a * b) else a * b := by
 cases s <;> cases t <;> simp [Int.neg_mul, Int.mul_neg]
set_option maxRecDepth 100000 in
open A in
theorem wdTimes_ok : COk Tryz.prog 111 wdTimes := wd2W_ok wdTT_ok (by kernel_rfl) fun s l t m h => ⟨rfl, by
 have h : (wdOk l && wdOk m && (decide (wdVal l < 18446744073709551616) && decide (wdVal m < 18446744073709551616))) = true := h
 obtain ⟨ho, hz⟩ := wd_and h
 obtain ⟨hl, hm⟩ := wd_and ho
 obtain ⟨h1, h2⟩ := wd_and hz
 have h1 := of_decide_eq_true h1
 have h2 := of_decide_eq_true h2
 obtain ⟨x0, x1, x2, x3, x4, x5, rfl, a0, a1, a2, a3, a4, a5⟩ := wd_six hl
 obtain ⟨y0, y1, y2, y3, y4, y5, rfl, b0, b1, b2, b3, b4, b5⟩ := wd_six hm
 show wdP _ _ _ fun u => u = wdW (wdMean s [x0, x1, x2, x3, x4, x5] * wdMean t [y0, y1, y2, y3, y4, y5])
 rw [wdTimes_vc]
 have ex : wdVal [x0, x1, x2, x3, x4, x5] = x0 + 4294967296 * (x1 + 4294967296 * (x2 + 4294967296 * (x3 + 4294967296 * (x4 + 4294967296 * x5)))) := rfl
 have ey : wdVal [y0, y1, y2, y3, y4, y5] = y0 + 4294967296 * (y1 + 4294967296 * (y2 + 4294967296 * (y3 + 4294967296 * (y4 + 4294967296 * y5)))) := rfl
 have ex2 : wdVal [x0, x1, x2, x3, x4, x5] = x0 + 4294967296 * x1 := by omega
 have ey2 : wdVal [y0, y1, y2, y3, y4, y5] = y0 + 4294967296 * y1 := by omega
 obtain rfl : y2 = 0 := by omega
 obtain ⟨c0, c1, c2, ec, C0, C1, C2, vc⟩ := tmR_eq a0 b0 b1
 obtain ⟨d0, d1, d2, ed, D0, D1, D2, vd⟩ := tmR_eq a1 b0 b1
 have e0 : tm_0 [x0, x1, x2, x3, x4, x5] [y0, y1, 0, y3, y4, y5] = [c0, c1, c2, 0, 0, 0] := by show tmR x0 y0 y1 0 ++ _ = _; rw [ec]; rfl
 have e1 : tm_1 [x0, x1, x2, x3, x4, x5] [y0, y1, 0, y3, y4, y5] = [0, d0, d1, d2, 0, 0] := by show 0 :: tmR x1 y0 y1 0 ++ _ = _; rw [ed]; rfl
 have o0 : wdOk [c0, c1, c2, 0, 0, 0] = true := wdOk_iff.2 (by omega)
 have o1 : wdOk [0, d0, d1, d2, 0, 0] = true := wdOk_iff.2 (by omega)
 have v0 : wdVal [0, 0, 0, 0, 0, 0] + wdVal [c0, c1, c2, 0, 0, 0] = x0 * (y0 + 4294967296 * y1) := by rw [← vc]; unfold wdVal; simp only; omega
 have v1 : x0 * (y0 + 4294967296 * y1) + wdVal [0, d0, d1, d2, 0, 0] = wdVal [x0, x1, x2, x3, x4, x5] * wdVal [y0, y1, 0, y3, y4, y5] := by
  rw [ex2, ey2, Int.add_mul, Int.mul_assoc, ← vd]; unfold wdVal; simp only; omega
 rw [e0, e1, v0]
 refine wdR_ok (by rw [wdOk_zero, o0]; rfl) (wdR_ok (by rw [o1, wd_okd]; rfl) ?_)
 rw [wd_val (by omega), v1]
 unfold wdMean
 rw [wd_sign]
 have hp : 0 ≤ wdVal [x0, x1, x2, x3, x4, x5] * wdVal [y0, y1, 0, y3, y4, y5] ∧ wdVal [x0, x1, x2, x3, x4, x5] * wdVal [y0, y1, 0, y3, y4, y5] < 6277101735386680763835789423207666416102355444464034512896 := by
  refine ⟨Int.mul_nonneg (by omega) (by omega), ?_⟩
  have := Int.mul_le_mul (show wdVal [x0, x1, x2, x3, x4, x5] ≤ 18446744073709551615 by omega) (show wdVal [y0, y1, 0, y3, y4, y5] ≤ 18446744073709551615 by omega) (by omega) (by omega)
  exact Int.lt_of_le_of_lt this (by decide)
 generalize wdVal [x0, x1, x2, x3, x4, x5] * wdVal [y0, y1, 0, y3, y4, y5] = n at *
 refine brc_intro (fun g => ?_) fun g => ?_
 · rw [if_pos g]
   refine wd_brc (wd_okd _) ?_
   rintro _ rfl
   rw [wd_val hp]
   refine wdW_eq ?_ ?_
   · by_cases z : n = 0
     · subst z; rfl
     · rw [decide_eq_false z, decide_eq_true (by omega)]; rfl
   · unfold wdAb; split <;> omega
 · rw [if_neg (by rw [g]; decide)]
   refine wdW_eq ?_ ?_
   · rw [decide_eq_false (by omega)]
   · unfold wdAb; rw [if_neg (by omega)]⟩
open A in
@[irreducible] def wdV (T : Tab) (g : Nat) (args : List AV) (K : AV → Prop) : Prop := afv PA Tryz.prog T noLoops 10 g args K
def wdHalf (n : Int) : Bool := decide (-3138550867693340381917894711603833208051177722232017256448 ≤ n ∧ n ≤ 3138550867693340381917894711603833208051177722232017256448)
def wdFl (a b : Int) : Int := if b < 0 then (-a) / (-b) else a / b
noncomputable def wdOverC (s : Bool) (l : List Int) (t : Bool) (m : List Int) : Bool := wdPlusC s l t m && (wdHalf (wdMean s l) && wdHalf (wdMean t m) && !decide (wdMean t m = 0))
open A in
noncomputable def wdOver : Con := wd2W fun s l t m => (wdOverC s l t m, wdW (wdFl (wdMean s l) (wdMean t m)))
open A in
noncomputable def wdU : Tab := tab [(98, wdOf), (97, wdPlus), (136, wdZero), (111, wdTimes), (110, wdOver), (96, wdSmall)]
open A in
noncomputable def wdM (t : Bool) (m : List Int) (C : Bool → Prop) : Prop := brc (!t) (brc (wdOk m) (∀ z : Bool, z = decide (wdVal m = 0) → C (!z)) False) (C false)
open A in
noncomputable def wdS (u : Bool) (n : List Int) (K : AV → Prop) : Prop := brc (wdOk n) (∀ x : Int, x = (wdOut (wdMean u n)).1 → ∀ y : Int, y = (wdOut (wdMean u n)).2 → K (.tup [.int .i64 x, .int .i64 y])) False
noncomputable def wdTimesC (s : Bool) (l : List Int) (t : Bool) (m : List Int) : Bool := wdOk l && wdOk m && (decide (wdVal l < 18446744073709551616) && decide (wdVal m < 18446744073709551616))
open A in
set_option maxRecDepth 100000 in
theorem wdFAdd_vc (a b : Int) (K : AV → Prop) : wdV wdU 90 [.int .i64 a, .int .i64 b] K =
 wdQ (wdIn a) a fun s l => wdQ (wdIn b) b fun t m => wdQ (wdPlusC s l t m) (wdMean s l + wdMean t m) fun u n => wdS u n K := by kernel_rfl
open A in
set_option maxRecDepth 100000 in
theorem wdFSub_vc (a b : Int) (K : AV → Prop) : wdV wdU 54 [.int .i64 a, .int .i64 b] K =
 wdQ (wdIn a) a fun s l => wdQ (wdIn b) b fun t m => wdM t m fun x => wdQ (wdPlusC s l x m) (wdMean s l + wdMean x m) fun u n => wdS u n K := by kernel_rfl
open A in
set_option maxRecDepth 100000 in
theorem wdFDiv_vc (a b : Int) (K : AV → Prop) : wdV wdU 70 [.int .i64 a, .int .i64 b] K =
 brc (b == 0) (K (.tup [.int .i64 0, .int .i64 11])) (wdQ (wdIn a) a fun s l => wdQ (wdIn b) b fun t m => wdQ (wdOverC s l t m) (wdFl (wdMean s l) (wdMean t m)) fun u n => wdS u n K) := by kernel_rfl
open A in
set_option maxRecDepth 100000 in
theorem wdFMod_vc (a b : Int) (K : AV → Prop) : wdV wdU 71 [.int .i64 a, .int .i64 b] K =
 brc (b == 0) (K (.tup [.int .i64 0, .int .i64 11])) (wdQ (wdIn a) a fun s l => wdQ (wdIn b) b fun t m => wdQ (wdIn a) a fun s' l' => wdQ (wdIn b) b fun t' m' => wdQ (wdOverC s' l' t' m') (wdFl (wdMean s' l') (wdMean t' m')) fun u n =>
  wdQ (wdTimesC t m u n) (wdMean t m * wdMean u n) fun v p => wdM v p fun x => wdQ (wdPlusC s l x p) (wdMean s l + wdMean x p) fun y q => wdS y q K) := by kernel_rfl
end Go.Proofs.YtimgphlfaninnaaGreat.P
namespace Go.Proofs.YtimgphlfaninnaaGreat.Civ
set_option linter.unusedVariables false
set_option linter.unusedSimpArgs false
open Go.RowKit Go.Proofs.YtimgphlfaninnaaGreatW.PrintWords Go.Proofs.YtimgphlfaninnaaGreatW.PrintLast Go.Proofs.YtimgphlfaninnaaGreatW.PrintMore
theorem w64 {x : Int} (h1 : -9223372036854775808 ≤ x) (h2 : x ≤ 9223372036854775807) : wrap64 x = x := by unfold wrap64; omega
def I64 (x : Int) : Prop := -9223372036854775808 ≤ x ∧ x ≤ 9223372036854775807
theorem i64_of_wf {x : Int} (h : (Lit.int .i64 x).wf = true) : I64 x := by
 simp only [Lit.wf, IntKind.min, IntKind.max, IntKind.signed, IntKind.bits, Bool.and_eq_true, decide_eq_true_eq, if_true] at h
 exact h
theorem wrap_i64 (x : Int) : I64 (wrap64 x) := by unfold I64 wrap64; omega
theorem w64_of {x : Int} (h : I64 x) : wrap64 x = x := w64 h.1 h.2
theorem td_pos {a b : Int} (ha : 0 ≤ a) : Int.tdiv a b = a / b := Int.tdiv_eq_ediv_of_nonneg ha
theorem tm_pos {a b : Int} (ha : 0 ≤ a) : Int.tmod a b = a % b := Int.tmod_eq_emod_of_nonneg ha
theorem td_neg {a b : Int} (ha : a ≤ 0) : Int.tdiv a b = -((-a) / b) := by
 have : Int.tdiv (-a) b = (-a) / b := Int.tdiv_eq_ediv_of_nonneg (by omega)
 rw [← this, Int.neg_tdiv, Int.neg_neg]
theorem tm_neg {a b : Int} (ha : a ≤ 0) : Int.tmod a b = -((-a) % b) := by
 have : Int.tmod (-a) b = (-a) % b := Int.tmod_eq_emod_of_nonneg (by omega)
 rw [← this, Int.neg_tmod, Int.neg_neg]
theorem cut_floor (a : Int) {b : Int} (hb : 0 < b) : (Int.tmod a b < 0 → Int.tdiv a b = a / b + 1 ∧ Int.tmod a b = a % b - b ∧ 0 < a % b) ∧ (¬ Int.tmod a b < 0 → Int.tdiv a b = a / b ∧ Int.tmod a b = a % b) := by
 rcases Int.le_total 0 a with h | h
 · rw [td_pos h, tm_pos h]
   have := Int.emod_nonneg a (Int.ne_of_gt hb)
   exact ⟨fun h => by omega, fun _ => ⟨rfl, rfl⟩⟩
 · rw [td_neg h, tm_neg h]
   have e := Int.mul_ediv_add_emod (-a) b
   have h1 := Int.emod_nonneg (-a) (Int.ne_of_gt hb)
   have h2 := Int.emod_lt_of_pos (-a) hb
   generalize (-a) / b = q at *
   generalize (-a) % b = r at *
   constructor
   · intro hr
     have := (Int.ediv_emod_unique (a := a) (b := b) (r := b - r) (q := -q - 1) hb).2 ⟨by rw [Int.mul_sub, Int.mul_neg]; omega, by omega, by omega⟩
     omega
   · intro hr
     have := (Int.ediv_emod_unique (a := a) (b := b) (r := 0) (q := -q) hb).2 ⟨by rw [Int.mul_neg]; omega, by omega, by omega⟩
     omega
theorem tmod_zero_iff (a : Int) {b : Int} (hb : 0 < b) : Int.tmod a b = 0 ↔ a % b = 0 := by
 have c := cut_floor a hb
 have h1 := Int.emod_nonneg a (Int.ne_of_gt hb)
 have h2 := Int.emod_lt_of_pos a hb
 by_cases h : Int.tmod a b < 0
 · have := (c.1 h).2.1; have := (c.1 h).2.2; omega
 · have := (c.2 h).2; omega
theorem ediv_i64 {a b : Int} (ha : I64 a) (hb : 0 < b) : -9223372036854775808 ≤ a / b ∧ a / b ≤ 9223372036854775807 := by
 obtain ⟨h1, h2⟩ := ha
 have e := Int.mul_ediv_add_emod a b
 have g1 := Int.emod_nonneg a (Int.ne_of_gt hb)
 have g2 := Int.emod_lt_of_pos a hb
 constructor
 · rw [Int.le_ediv_iff_mul_le hb]
   have : -9223372036854775808 * b ≤ -9223372036854775808 * 1 := Int.mul_le_mul_of_nonpos_left (by omega) (by omega)
   omega
 · rcases Int.lt_or_le a 0 with h | h
   · have : a / b < 0 := Int.ediv_lt_of_lt_mul hb (by omega)
     omega
   · have := Int.ediv_le_self b h; omega
theorem Ev.at0 {α : Type} {g : Nat → Option α} {r : α} (h : ∀ k, g k = some r) : Ev g r := ⟨0, fun k _ => h k⟩
theorem Ev.at1 {α : Type} {g : Nat → Option α} {r : α} (h : ∀ k, g (k + 1) = some r) : Ev g r :=
 ⟨1, fun k hk => by obtain ⟨m, rfl⟩ : ∃ m, k = m + 1 := ⟨k - 1, by omega⟩; exact h m⟩
theorem Ev.at2 {α : Type} {g : Nat → Option α} {r : α} (h : ∀ k, g (k + 2) = some r) : Ev g r :=
 ⟨2, fun k hk => by obtain ⟨m, rfl⟩ : ∃ m, k = m + 2 := ⟨k - 2, by omega⟩; exact h m⟩
theorem Ev.cast {α : Type} {g : Nat → Option α} {r r' : α} (h : Ev g r) (e : r = r') : Ev g r' := e ▸ h
theorem Ev.bind0 {α β : Type} {g : Option α} {f : Nat → α → Option β} {a : α} {r : β} (h : g = some a) (k : Ev (fun n => f n a) r) : Ev (fun n => g.bind (f n)) r := by
 subst h; exact k
theorem Ev.succ {α : Type} {g : Nat → Option α} {r : α} (h : Ev (fun k => g (k + 1)) r) : Ev g r := Ev.step (f := fun k => g (k + 1)) (fun _ => rfl) h
theorem Ev.pos {α : Type} {c : Prop} [Decidable c] {f g : Nat → Option α} {r : α} (h : c) (k : Ev f r) : Ev (fun n => if c then f n else g n) r := by
 simpa only [if_pos h] using k
theorem Ev.neg {α : Type} {c : Prop} [Decidable c] {f g : Nat → Option α} {r : α} (h : ¬ c) (k : Ev g r) : Ev (fun n => if c then f n else g n) r := by
 simpa only [if_neg h] using k
end Go.Proofs.YtimgphlfaninnaaGreat.Civ
namespace Go.Proofs.YtimgphlfaninnaaGreat.P
open Go.RowKit Go.Proofs.YtimgphlfaninnaaGreatW.PrintWords Go.Proofs.YtimgphlfaninnaaGreatW.PrintLast Go.Proofs.YtimgphlfaninnaaGreatW.PrintMore
 attribute [local go_sem] jQ jP zB zC jE jD jO jN
set_option linter.unusedVariables false
set_option linter.unusedSimpArgs false
def vF.f (a0 : Int) : Option (Bool × List Int) := if a0 < 0 then (if 6 ≤ 35184372088832 then ((some (List.replicate 6 0 : List Int)).bind fun y421 => (if 0 < (y421.length : Int) then (if 1 < (y421.length : Int) then (some (true, ((y421.set (0 : Int).toNat (Go.bits .and .u64 (IntKind.u64.wrap (-(IntKind.u64.wrap (a0)))) 4294967295)).set (1 : Int).toNat ((IntKind.u64.wrap (-(IntKind.u64.wrap (a0)))) / 4294967296)))) else (none)) else (none))) else (none)) else (if 6 ≤ 35184372088832 then ((some (List.replicate 6 0 : List Int)).bind fun y426 => (if 0 < (y426.length : Int) then (if 1 < (y426.length : Int) then (some (false, ((y426.set (0 : Int).toNat (Go.bits .and .u64 (IntKind.u64.wrap (a0)) 4294967295)).set (1 : Int).toNat ((IntKind.u64.wrap (a0)) / 4294967296)))) else (none)) else (none))) else (none))
set_option maxHeartbeats 8000000 in
set_option maxRecDepth 100000 in
theorem vF.calls (a0 : Int) (r1 : Bool) (r2 : List Int) (w : World) (h : vF.f a0 = some (r1, r2)) :
 Calls Tryz.prog 98 #[.int .i64 a0] w fun e w' => ∃ v1_ : Value, e = .returned (.agg #[.bool r1, v1_]) ∧ Kd.R (Kd.int .u64) 155 w' w.heap.size (fun _ => True) v1_ r2 ∧ Below w.heap.size w w' := by
 have hu135 := Tryz.underlying135
 have HB := Aside0.mk (Below.refl w.heap.size w)
 have H : (if a0 < 0 then (if 6 ≤ 35184372088832 then ((some (List.replicate 6 0 : List Int)).bind fun y421 => (if 0 < (y421.length : Int) then (if 1 < (y421.length : Int) then (some (true, ((y421.set (0 : Int).toNat (Go.bits .and .u64 (IntKind.u64.wrap (-(IntKind.u64.wrap (a0)))) 4294967295)).set (1 : Int).toNat ((IntKind.u64.wrap (-(IntKind.u64.wrap (a0)))) / 4294967296)))) else (none)) else (none))) else (none)) else (if 6 ≤ 35184372088832 then ((some (List.replicate 6 0 : List Int)).bind fun y426 => (if 0 < (y426.length : Int) then (if 1 < (y426.length : Int) then (some (false, ((y426.set (0 : Int).toNat (Go.bits .and .u64 (IntKind.u64.wrap (a0)) 4294967295)).set (1 : Int).toNat ((IntKind.u64.wrap (a0)) / 4294967296)))) else (none)) else (none))) else (none))) = some (r1, r2) := h
 clear h
 by_cases c2 : a0 < 0
 · rw [if_pos c2] at H
   have c2b0 : decide (a0 < 0) = true := decide_eq_true c2
   clear c2
   by_cases c3 : 6 ≤ 35184372088832
   · rw [if_pos c3] at H
     have c3b0 := eq_true c3
     have c3b1 : decide (6 ≤ 35184372088832) = true := decide_eq_true c3
     clear c3
     obtain ⟨y421, hy421⟩ : ∃ y_ : List Int, y_ = (List.replicate 6 0) := ⟨_, rfl⟩
     replace H : (if 0 < (y421.length : Int) then (if 1 < (y421.length : Int) then (some (true, ((y421.set (0 : Int).toNat (Go.bits .and .u64 (IntKind.u64.wrap (-(IntKind.u64.wrap (a0)))) 4294967295)).set (1 : Int).toNat ((IntKind.u64.wrap (-(IntKind.u64.wrap (a0)))) / 4294967296)))) else (none)) else (none)) = some (r1, r2) := by first | (rw [hy421]; with_reducible exact H) | (have H2_ := (Option.bind_some _ _).symm.trans H; rw [hy421]; with_reducible exact H2_) | (have H2_ := (Option.bind_some _ _).symm.trans H; with_reducible exact H2_) | with_reducible exact H | (rw [hy421]; exact H) | exact H
     have Ny421 := Aside0.mk hy421
     clear hy421
     by_cases c4 : 0 < (y421.length : Int)
     · rw [if_pos c4] at H
       have c4b0 : decide (0 < (y421.length : Int)) = true := decide_eq_true c4
       have c4b1 : decide (0 < y421.length) = true := decide_eq_true (by omega)
       clear c4
       obtain ⟨y424, hy424⟩ : ∃ y_ : List Int, y_ = (y421.set (0 : Int).toNat (Go.bits .and .u64 (IntKind.u64.wrap (-(IntKind.u64.wrap (a0)))) 4294967295)) := ⟨_, rfl⟩
       replace H : (if 1 < (y421.length : Int) then (some (true, (y424.set (1 : Int).toNat ((IntKind.u64.wrap (-(IntKind.u64.wrap (a0)))) / 4294967296)))) else (none)) = some (r1, r2) := by first | (rw [hy424]; with_reducible exact H) | (have H2_ := (Option.bind_some _ _).symm.trans H; rw [hy424]; with_reducible exact H2_) | (have H2_ := (Option.bind_some _ _).symm.trans H; with_reducible exact H2_) | with_reducible exact H | (rw [hy424]; exact H) | exact H
       have Ny424 := Aside0.mk hy424
       clear hy424
       by_cases c6 : 1 < (y421.length : Int)
       · rw [if_pos c6] at H
         have c6b0 : decide (1 < (y421.length : Int)) = true := decide_eq_true c6
         have c6b1 : decide (1 < y421.length) = true := decide_eq_true (by omega)
         clear c6
         obtain ⟨y425, hy425⟩ : ∃ y_ : List Int, y_ = (y424.set (1 : Int).toNat ((IntKind.u64.wrap (-(IntKind.u64.wrap (a0)))) / 4294967296)) := ⟨_, rfl⟩
         replace H : (some (true, y425)) = some (r1, r2) := by first | (rw [hy425]; with_reducible exact H) | (have H2_ := (Option.bind_some _ _).symm.trans H; rw [hy425]; with_reducible exact H2_) | (have H2_ := (Option.bind_some _ _).symm.trans H; with_reducible exact H2_) | with_reducible exact H | (rw [hy425]; exact H) | exact H
         have Ny425 := Aside0.mk hy425
         clear hy425
         simp only [Option.some.injEq, Prod.mk.injEq] at H
         obtain ⟨rfl, rfl⟩ := H
         go_enter Tryz.func98, Tryz.ntmps98
         go_wp2_with (first | ((with_reducible refine gate_dst (N := 2) rfl ?_); refine box_event ?hg (N := 2) ?hd (cs := #[.bool false, .slice none 0 0]) (t := 135) ?hr ?_; (case hd => rfl); (case hg => rfl); (case hr => first | (go_simp; done) | (go_simp; rfl)); intro gb420 hg w8 hbox hb; have n0_ := Aside0.mk (jZ (by repeat (first | (with_reducible first | exact HB.out | apply kO | apply kF | apply kQ) | exact HB.out)) hb); have n1_ := Aside0.mk (hbox); have n2_ := Aside0.mk ((by rw [hg]; exact (zF (by repeat (first | (with_reducible first | exact HB.out | apply kO | apply kF | apply kQ) | exact HB.out))) : w.heap.size ≤ gb420)); have n3_ := Aside0.mk ((by rw [hg]; exact (zF (by repeat (first | (with_reducible first | exact HB.out | apply kO | apply kF | apply kQ) | exact HB.out))) : w.heap.size ≤ gb420)); clear HB; have HB := n0_; have BK420 := n1_; have GW420 := n2_; have GE420 := n3_; clear n0_ n1_ n2_ n3_; clear hb hbox hg) | ((with_reducible refine gate_dst (N := 11) rfl ?_); refine Kd.R_make (Kd.int .u64) _ 155 rfl (N := 11) rfl 133 _ _ rfl 6 rfl rfl Tryz.underlying133 (.int .u64 0) 8 info155 rfl (by decide) (by omega) 0 (ok := fun _ => True) (okp := fun _ => True) rfl (fun _ hk => hk) trivial (by omega) (by omega) (Below.refl _ _) (Nat.le_refl _) ?_; intro v422 w9 ho10 hb hg_ hnew_; clear hg_ hnew_; (first | rw [← Ny421.out] at ho10 | (simp only [Int.reduceToNat] at ho10; rw [← Ny421.out] at ho10)); have n0_ := Aside0.mk (Kd.R_lower ho10 (zF (by repeat (first | (with_reducible first | exact HB.out | apply kO | apply kF | apply kQ | refine bA ?_ GE420.out) | exact HB.out)))); have n1_ := Aside0.mk (zH (g := gb420) (o := .cells #[.bool false, .slice none 0 0] 135 (0, 0)) (by (with_reducible repeat (first | refine bQ ?_ _ | refine bW ?_ | refine bP ?_ _)); exact BK420.out) hb); have n2_ := Aside0.mk (jZ (by repeat (first | (with_reducible first | exact HB.out | apply kO | apply kF | apply kQ | refine bA ?_ GE420.out) | exact HB.out)) hb); clear BK420; clear HB; have HO423 := n0_; have BK420 := n1_; have HB := n2_; clear n0_ n1_ n2_; clear hb ho10; have p5 : 0 ≤ (0 : Int) := (by omega); have q5 : (0 : Int) < ((y421.length : Int) : Int) := of_decide_eq_true (by first | (with_reducible assumption) | assumption); have qi5 : (0 < y421.length) = True := eq_true (by omega); obtain ⟨go5, co5, eo5, gb5, gl5, cl5, HG5⟩ := Kd.R_form HO423.out (by omega); (first | cases eo5 | (injection eo5 with ea_ en_ ec_; (first | subst ea_ | (injection ea_ with ea_; subst ea_)); subst ec_; clear en_)); have GB5 := Aside0.mk gb5; have GG5 := Aside0.mk HG5; clear gb5 gl5 HG5; obtain ⟨hx5_0, hf5_0⟩ := Kd.R_celln 0 HO423.out (0 : Int) p5 q5; (try rw [show ((0 : Int)).toNat = 0 from rfl] at hx5_0); (try simp only [Nat.reduceMul, Nat.zero_mul, Nat.zero_add, Nat.reduceAdd] at hx5_0); (try rw [show ((0 : Int)).toNat = 0 from rfl] at hf5_0); (try simp only [Nat.reduceMul, Nat.zero_mul, Nat.zero_add, Nat.reduceAdd] at hf5_0); replace p5 := eq_true p5; replace q5 := eq_true q5; obtain ⟨hy11_, hz11_⟩ := Kd.R_celln 0 HO423.out (0 : Int) (by omega) (of_decide_eq_true (by first | (with_reducible assumption) | assumption)); (try simp only [Int.reduceToNat, Int.toNat_zero, Int.toNat_ofNat, Nat.reduceMul, Nat.zero_mul, Nat.zero_add] at hy11_ hz11_); (try rw [show ((0 : Int)).toNat = 0 from rfl] at hy11_); (try rw [show ((0 : Int)).toNat = 0 from rfl] at hz11_); have HP11 := Kd.R_putg HO423.out (0 : Int) (Go.bits .and .u64 (IntKind.u64.wrap (-(IntKind.u64.wrap (a0)))) 4294967295)) | ((with_reducible refine gate_store (t := 155) (p := 15) rfl ?_); refine store_event (t := 155) (p := 15) (v := ?vo_w12) (w1 := (w9.setCell ⟨go5, (0 : Int).toNat, none⟩ (.int .u64 (Go.bits .and .u64 (IntKind.u64.wrap (-(IntKind.u64.wrap (a0)))) 4294967295)))) ?hg ?ho ?hn ?hr ?_; (case ho => rfl); (case hg => rfl); (case hn => rfl); (case hr => first | (go_simp; done) | (go_simp; rfl)); intro w12 hw; have hg : w9.grownBy w12 (some go5) := (by rw [hw]; exact HP11.2); have hp_ : Kd.R (Kd.int .u64) 155 w12 w.heap.size (fun _ => True) (.slice (some ⟨go5, 0, none⟩) y421.length co5) y424 := (by rw [hw, Ny424.out]; exact HP11.1); clear HP11; have n0_ := Aside0.mk (blk_grown (g := gb420) (o := .cells #[.bool false, .slice none 0 0] 135 (0, 0)) (by (with_reducible repeat (first | refine bQ ?_ _ | refine bW ?_ | refine bP ?_ _)); exact BK420.out) hg (Kd.R_ne HO423.out BK420.out (by decide))); have n1_ := Aside0.mk (hp_); have n2_ := Aside0.mk ((by rw [hw]; exact bA (HB.out) GB5.out : Below w.heap.size w w12)); clear BK420; clear HO423; clear HB; have BK420 := n0_; have HO423 := n1_; have HB := n2_; clear n0_ n1_ n2_; clear hg hw hp_; have p7 : 0 ≤ (1 : Int) := (by omega); have q7 : (1 : Int) < ((y421.length : Int) : Int) := of_decide_eq_true (by first | (with_reducible assumption) | assumption); have qi7 : (1 < y421.length) = True := eq_true (by omega); obtain ⟨hx7_0, hf7_0⟩ := Kd.R_celln 0 HO423.out (1 : Int) p7 q7; (try rw [show ((1 : Int)).toNat = 1 from rfl] at hx7_0); (try simp only [Nat.reduceMul, Nat.zero_mul, Nat.zero_add, Nat.reduceAdd] at hx7_0); (try rw [show ((1 : Int)).toNat = 1 from rfl] at hf7_0); (try simp only [Nat.reduceMul, Nat.zero_mul, Nat.zero_add, Nat.reduceAdd] at hf7_0); replace p7 := eq_true p7; replace q7 := eq_true q7; obtain ⟨hy13_, hz13_⟩ := Kd.R_celln 0 HO423.out (1 : Int) (by omega) (of_decide_eq_true (by first | (with_reducible assumption) | assumption)); (try simp only [Int.reduceToNat, Int.toNat_zero, Int.toNat_ofNat, Nat.reduceMul, Nat.zero_mul, Nat.zero_add] at hy13_ hz13_); (try rw [show ((1 : Int)).toNat = 1 from rfl] at hy13_); (try rw [show ((1 : Int)).toNat = 1 from rfl] at hz13_); have HP13 := Kd.R_putg HO423.out (1 : Int) ((IntKind.u64.wrap (-(IntKind.u64.wrap (a0)))) / 4294967296)) | ((with_reducible refine gate_store (t := 155) (p := 19) rfl ?_); refine store_event (t := 155) (p := 19) (v := ?vo_w14) (w1 := (w12.setCell ⟨go5, (1 : Int).toNat, none⟩ (.int .u64 ((IntKind.u64.wrap (-(IntKind.u64.wrap (a0)))) / 4294967296)))) ?hg ?ho ?hn ?hr ?_; (case ho => rfl); (case hg => rfl); (case hn => rfl); (case hr => first | (go_simp; done) | (go_simp; rfl)); intro w14 hw; have hg : w12.grownBy w14 (some go5) := (by rw [hw]; exact HP13.2); have hp_ : Kd.R (Kd.int .u64) 155 w14 w.heap.size (fun _ => True) (.slice (some ⟨go5, 0, none⟩) y421.length co5) y425 := (by rw [hw, Ny425.out]; exact HP13.1); clear HP13; have n0_ := Aside0.mk (blk_grown (g := gb420) (o := .cells #[.bool false, .slice none 0 0] 135 (0, 0)) (by (with_reducible repeat (first | refine bQ ?_ _ | refine bW ?_ | refine bP ?_ _)); exact BK420.out) hg (Kd.R_ne HO423.out BK420.out (by decide))); have n1_ := Aside0.mk (hp_); have n2_ := Aside0.mk ((by rw [hw]; exact bA (HB.out) GB5.out : Below w.heap.size w w14)); clear BK420; clear HO423; clear HB; have BK420 := n0_; have HO423 := n1_; have HB := n2_; clear n0_ n1_ n2_; clear hg hw hp_; have hcz15_0 : w14.cell? ⟨gb420, 0, none⟩ = some (.bool false) := (jG BK420.out 0).trans rfl; have hcz15_1 : w14.cell? ⟨gb420, 1, none⟩ = some (.slice none 0 0) := (jG BK420.out 1).trans rfl; have hfz15_0 := jK BK420.out 0; have hfz15_1 := jK BK420.out 1))
         refine bodyPost_ret (results_cell_row rfl _ _ gb420 135 #[.bool true, .slice (some ⟨go5, 0, none⟩) y421.length co5] (0, 0) _ rfl (by (with_reducible repeat (first | refine bQ ?_ _ | refine bW ?_ | refine bP ?_ _)); refine blk_put (cs := #[.bool true, .slice none 0 0]) ?_ 1 _ rfl; (with_reducible repeat (first | refine bQ ?_ _ | refine bW ?_ | refine bP ?_ _)); refine blk_put (cs := #[.bool false, .slice none 0 0]) ?_ 0 _ rfl; (with_reducible repeat (first | refine bQ ?_ _ | refine bW ?_ | refine bP ?_ _)); exact BK420.out) Tryz.underlying135 rfl (by kernel_rfl)) rfl ?_
         exact ⟨_, by first | rfl | (simp [zR, zS] <;> rfl) | (simp [*, zR, zS] <;> rfl), by (with_reducible repeat (first | apply Kd.R_alloc | apply Kd.R_drewN | apply Kd.R_drew)); exact Kd.R_mono (Kd.R_far (p := ⟨gb420, 1, none⟩) (Kd.R_far (p := ⟨gb420, 0, none⟩) (Kd.R_types HO423.out BK420.out (by decide)) (fun _ hk => hk.2) (.bool true)) (fun _ hk => hk.2) (.slice (some ⟨go5, 0, none⟩) y421.length co5)) (fun _ hk => trivial), by repeat (first | (with_reducible first | exact HB.out | apply kO | apply kF | apply kQ | refine bA ?_ GE420.out) | exact HB.out)⟩
       · rw [if_neg c6] at H
         exact absurd H (by simp)
     · rw [if_neg c4] at H
       exact absurd H (by simp)
   · rw [if_neg c3] at H
     exact absurd H (by simp)
 · rw [if_neg c2] at H
   have c2b0 : decide (a0 < 0) = false := decide_eq_false c2
   clear c2
   by_cases c16 : 6 ≤ 35184372088832
   · rw [if_pos c16] at H
     have c16b0 := eq_true c16
     have c16b1 : decide (6 ≤ 35184372088832) = true := decide_eq_true c16
     clear c16
     obtain ⟨y426, hy426⟩ : ∃ y_ : List Int, y_ = (List.replicate 6 0) := ⟨_, rfl⟩
     replace H : (if 0 < (y426.length : Int) then (if 1 < (y426.length : Int) then (some (false, ((y426.set (0 : Int).toNat (Go.bits .and .u64 (IntKind.u64.wrap (a0)) 4294967295)).set (1 : Int).toNat ((IntKind.u64.wrap (a0)) / 4294967296)))) else (none)) else (none)) = some (r1, r2) := by first | (rw [hy426]; with_reducible exact H) | (have H2_ := (Option.bind_some _ _).symm.trans H; rw [hy426]; with_reducible exact H2_) | (have H2_ := (Option.bind_some _ _).symm.trans H; with_reducible exact H2_) | with_reducible exact H | (rw [hy426]; exact H) | exact H
     have Ny426 := Aside0.mk hy426
     clear hy426
     by_cases c17 : 0 < (y426.length : Int)
     · rw [if_pos c17] at H
       have c17b0 : decide (0 < (y426.length : Int)) = true := decide_eq_true c17
       have c17b1 : decide (0 < y426.length) = true := decide_eq_true (by omega)
       clear c17
       obtain ⟨y429, hy429⟩ : ∃ y_ : List Int, y_ = (y426.set (0 : Int).toNat (Go.bits .and .u64 (IntKind.u64.wrap (a0)) 4294967295)) := ⟨_, rfl⟩
       replace H : (if 1 < (y426.length : Int) then (some (false, (y429.set (1 : Int).toNat ((IntKind.u64.wrap (a0)) / 4294967296)))) else (none)) = some (r1, r2) := by first | (rw [hy429]; with_reducible exact H) | (have H2_ := (Option.bind_some _ _).symm.trans H; rw [hy429]; with_reducible exact H2_) | (have H2_ := (Option.bind_some _ _).symm.trans H; with_reducible exact H2_) | with_reducible exact H | (rw [hy429]; exact H) | exact H
       have Ny429 := Aside0.mk hy429
       clear hy429
       by_cases c19 : 1 < (y426.length : Int)
       · rw [if_pos c19] at H
         have c19b0 : decide (1 < (y426.length : Int)) = true := decide_eq_true c19
         have c19b1 : decide (1 < y426.length) = true := decide_eq_true (by omega)
         clear c19
         obtain ⟨y430, hy430⟩ : ∃ y_ : List Int, y_ = (y429.set (1 : Int).toNat ((IntKind.u64.wrap (a0)) / 4294967296)) := ⟨_, rfl⟩
         replace H : (some (false, y430)) = some (r1, r2) := by first | (rw [hy430]; with_reducible exact H) | (have H2_ := (Option.bind_some _ _).symm.trans H; rw [hy430]; with_reducible exact H2_) | (have H2_ := (Option.bind_some _ _).symm.trans H; with_reducible exact H2_) | with_reducible exact H | (rw [hy430]; exact H) | exact H
         have Ny430 := Aside0.mk hy430
         clear hy430
         simp only [Option.some.injEq, Prod.mk.injEq] at H
         obtain ⟨rfl, rfl⟩ := H
         go_enter Tryz.func98, Tryz.ntmps98
         go_wp2_with (first | ((with_reducible refine gate_dst (N := 2) rfl ?_); refine box_event ?hg (N := 2) ?hd (cs := #[.bool false, .slice none 0 0]) (t := 135) ?hr ?_; (case hd => rfl); (case hg => rfl); (case hr => first | (go_simp; done) | (go_simp; rfl)); intro gb420 hg w21 hbox hb; have n0_ := Aside0.mk (jZ (by repeat (first | (with_reducible first | exact HB.out | apply kO | apply kF | apply kQ) | exact HB.out)) hb); have n1_ := Aside0.mk (hbox); have n2_ := Aside0.mk ((by rw [hg]; exact (zF (by repeat (first | (with_reducible first | exact HB.out | apply kO | apply kF | apply kQ) | exact HB.out))) : w.heap.size ≤ gb420)); have n3_ := Aside0.mk ((by rw [hg]; exact (zF (by repeat (first | (with_reducible first | exact HB.out | apply kO | apply kF | apply kQ) | exact HB.out))) : w.heap.size ≤ gb420)); clear HB; have HB := n0_; have BK420 := n1_; have GW420 := n2_; have GE420 := n3_; clear n0_ n1_ n2_ n3_; clear hb hbox hg) | ((with_reducible refine gate_dst (N := 11) rfl ?_); refine Kd.R_make (Kd.int .u64) _ 155 rfl (N := 11) rfl 133 _ _ rfl 6 rfl rfl Tryz.underlying133 (.int .u64 0) 8 info155 rfl (by decide) (by omega) 0 (ok := fun _ => True) (okp := fun _ => True) rfl (fun _ hk => hk) trivial (by omega) (by omega) (Below.refl _ _) (Nat.le_refl _) ?_; intro v427 w22 ho23 hb hg_ hnew_; clear hg_ hnew_; (first | rw [← Ny426.out] at ho23 | (simp only [Int.reduceToNat] at ho23; rw [← Ny426.out] at ho23)); have n0_ := Aside0.mk (Kd.R_lower ho23 (zF (by repeat (first | (with_reducible first | exact HB.out | apply kO | apply kF | apply kQ | refine bA ?_ GE420.out) | exact HB.out)))); have n1_ := Aside0.mk (zH (g := gb420) (o := .cells #[.bool false, .slice none 0 0] 135 (0, 0)) (by (with_reducible repeat (first | refine bQ ?_ _ | refine bW ?_ | refine bP ?_ _)); exact BK420.out) hb); have n2_ := Aside0.mk (jZ (by repeat (first | (with_reducible first | exact HB.out | apply kO | apply kF | apply kQ | refine bA ?_ GE420.out) | exact HB.out)) hb); clear BK420; clear HB; have HO428 := n0_; have BK420 := n1_; have HB := n2_; clear n0_ n1_ n2_; clear hb ho23; have p18 : 0 ≤ (0 : Int) := (by omega); have q18 : (0 : Int) < ((y426.length : Int) : Int) := of_decide_eq_true (by first | (with_reducible assumption) | assumption); have qi18 : (0 < y426.length) = True := eq_true (by omega); obtain ⟨go18, co18, eo18, gb18, gl18, cl18, HG18⟩ := Kd.R_form HO428.out (by omega); (first | cases eo18 | (injection eo18 with ea_ en_ ec_; (first | subst ea_ | (injection ea_ with ea_; subst ea_)); subst ec_; clear en_)); have GB18 := Aside0.mk gb18; have GG18 := Aside0.mk HG18; clear gb18 gl18 HG18; obtain ⟨hx18_0, hf18_0⟩ := Kd.R_celln 0 HO428.out (0 : Int) p18 q18; (try rw [show ((0 : Int)).toNat = 0 from rfl] at hx18_0); (try simp only [Nat.reduceMul, Nat.zero_mul, Nat.zero_add, Nat.reduceAdd] at hx18_0); (try rw [show ((0 : Int)).toNat = 0 from rfl] at hf18_0); (try simp only [Nat.reduceMul, Nat.zero_mul, Nat.zero_add, Nat.reduceAdd] at hf18_0); replace p18 := eq_true p18; replace q18 := eq_true q18; obtain ⟨hy24_, hz24_⟩ := Kd.R_celln 0 HO428.out (0 : Int) (by omega) (of_decide_eq_true (by first | (with_reducible assumption) | assumption)); (try simp only [Int.reduceToNat, Int.toNat_zero, Int.toNat_ofNat, Nat.reduceMul, Nat.zero_mul, Nat.zero_add] at hy24_ hz24_); (try rw [show ((0 : Int)).toNat = 0 from rfl] at hy24_); (try rw [show ((0 : Int)).toNat = 0 from rfl] at hz24_); have HP24 := Kd.R_putg HO428.out (0 : Int) (Go.bits .and .u64 (IntKind.u64.wrap (a0)) 4294967295)) | ((with_reducible refine gate_store (t := 155) (p := 15) rfl ?_); refine store_event (t := 155) (p := 15) (v := ?vo_w25) (w1 := (w22.setCell ⟨go18, (0 : Int).toNat, none⟩ (.int .u64 (Go.bits .and .u64 (IntKind.u64.wrap (a0)) 4294967295)))) ?hg ?ho ?hn ?hr ?_; (case ho => rfl); (case hg => rfl); (case hn => rfl); (case hr => first | (go_simp; done) | (go_simp; rfl)); intro w25 hw; have hg : w22.grownBy w25 (some go18) := (by rw [hw]; exact HP24.2); have hp_ : Kd.R (Kd.int .u64) 155 w25 w.heap.size (fun _ => True) (.slice (some ⟨go18, 0, none⟩) y426.length co18) y429 := (by rw [hw, Ny429.out]; exact HP24.1); clear HP24; have n0_ := Aside0.mk (blk_grown (g := gb420) (o := .cells #[.bool false, .slice none 0 0] 135 (0, 0)) (by (with_reducible repeat (first | refine bQ ?_ _ | refine bW ?_ | refine bP ?_ _)); exact BK420.out) hg (Kd.R_ne HO428.out BK420.out (by decide))); have n1_ := Aside0.mk (hp_); have n2_ := Aside0.mk ((by rw [hw]; exact bA (HB.out) GB18.out : Below w.heap.size w w25)); clear BK420; clear HO428; clear HB; have BK420 := n0_; have HO428 := n1_; have HB := n2_; clear n0_ n1_ n2_; clear hg hw hp_; have p20 : 0 ≤ (1 : Int) := (by omega); have q20 : (1 : Int) < ((y426.length : Int) : Int) := of_decide_eq_true (by first | (with_reducible assumption) | assumption); have qi20 : (1 < y426.length) = True := eq_true (by omega); obtain ⟨hx20_0, hf20_0⟩ := Kd.R_celln 0 HO428.out (1 : Int) p20 q20; (try rw [show ((1 : Int)).toNat = 1 from rfl] at hx20_0); (try simp only [Nat.reduceMul, Nat.zero_mul, Nat.zero_add, Nat.reduceAdd] at hx20_0); (try rw [show ((1 : Int)).toNat = 1 from rfl] at hf20_0); (try simp only [Nat.reduceMul, Nat.zero_mul, Nat.zero_add, Nat.reduceAdd] at hf20_0); replace p20 := eq_true p20; replace q20 := eq_true q20; obtain ⟨hy26_, hz26_⟩ := Kd.R_celln 0 HO428.out (1 : Int) (by omega) (of_decide_eq_true (by first | (with_reducible assumption) | assumption)); (try simp only [Int.reduceToNat, Int.toNat_zero, Int.toNat_ofNat, Nat.reduceMul, Nat.zero_mul, Nat.zero_add] at hy26_ hz26_); (try rw [show ((1 : Int)).toNat = 1 from rfl] at hy26_); (try rw [show ((1 : Int)).toNat = 1 from rfl] at hz26_); have HP26 := Kd.R_putg HO428.out (1 : Int) ((IntKind.u64.wrap (a0)) / 4294967296)) | ((with_reducible refine gate_store (t := 155) (p := 19) rfl ?_); refine store_event (t := 155) (p := 19) (v := ?vo_w27) (w1 := (w25.setCell ⟨go18, (1 : Int).toNat, none⟩ (.int .u64 ((IntKind.u64.wrap (a0)) / 4294967296)))) ?hg ?ho ?hn ?hr ?_; (case ho => rfl); (case hg => rfl); (case hn => rfl); (case hr => first | (go_simp; done) | (go_simp; rfl)); intro w27 hw; have hg : w25.grownBy w27 (some go18) := (by rw [hw]; exact HP26.2); have hp_ : Kd.R (Kd.int .u64) 155 w27 w.heap.size (fun _ => True) (.slice (some ⟨go18, 0, none⟩) y426.length co18) y430 := (by rw [hw, Ny430.out]; exact HP26.1); clear HP26; have n0_ := Aside0.mk (blk_grown (g := gb420) (o := .cells #[.bool false, .slice none 0 0] 135 (0, 0)) (by (with_reducible repeat (first | refine bQ ?_ _ | refine bW ?_ | refine bP ?_ _)); exact BK420.out) hg (Kd.R_ne HO428.out BK420.out (by decide))); have n1_ := Aside0.mk (hp_); have n2_ := Aside0.mk ((by rw [hw]; exact bA (HB.out) GB18.out : Below w.heap.size w w27)); clear BK420; clear HO428; clear HB; have BK420 := n0_; have HO428 := n1_; have HB := n2_; clear n0_ n1_ n2_; clear hg hw hp_; have hcz28_0 : w27.cell? ⟨gb420, 0, none⟩ = some (.bool false) := (jG BK420.out 0).trans rfl; have hcz28_1 : w27.cell? ⟨gb420, 1, none⟩ = some (.slice none 0 0) := (jG BK420.out 1).trans rfl; have hfz28_0 := jK BK420.out 0; have hfz28_1 := jK BK420.out 1))
         refine bodyPost_ret (results_cell_row rfl _ _ gb420 135 #[.bool false, .slice (some ⟨go18, 0, none⟩) y426.length co18] (0, 0) _ rfl (by (with_reducible repeat (first | refine bQ ?_ _ | refine bW ?_ | refine bP ?_ _)); refine blk_put (cs := #[.bool false, .slice none 0 0]) ?_ 1 _ rfl; (with_reducible repeat (first | refine bQ ?_ _ | refine bW ?_ | refine bP ?_ _)); refine blk_put (cs := #[.bool false, .slice none 0 0]) ?_ 0 _ rfl; (with_reducible repeat (first | refine bQ ?_ _ | refine bW ?_ | refine bP ?_ _)); exact BK420.out) Tryz.underlying135 rfl (by kernel_rfl)) rfl ?_
         exact ⟨_, by first | rfl | (simp [zR, zS] <;> rfl) | (simp [*, zR, zS] <;> rfl), by (with_reducible repeat (first | apply Kd.R_alloc | apply Kd.R_drewN | apply Kd.R_drew)); exact Kd.R_mono (Kd.R_far (p := ⟨gb420, 1, none⟩) (Kd.R_far (p := ⟨gb420, 0, none⟩) (Kd.R_types HO428.out BK420.out (by decide)) (fun _ hk => hk.2) (.bool false)) (fun _ hk => hk.2) (.slice (some ⟨go18, 0, none⟩) y426.length co18)) (fun _ hk => trivial), by repeat (first | (with_reducible first | exact HB.out | apply kO | apply kF | apply kQ | refine bA ?_ GE420.out) | exact HB.out)⟩
       · rw [if_neg c19] at H
         exact absurd H (by simp)
     · rw [if_neg c17] at H
       exact absurd H (by simp)
   · rw [if_neg c16] at H
     exact absurd H (by simp)
def bI.l0 : Nat → List Int → List Int → List Int → Int → Int → Option (List Int)
 | 0, _, _, _, _, _ => none
 | k + 1, x0, x1, x5, x6, x7 => if x7 < 6 then (if 0 ≤ x7 then (if x7 < (x0.length : Int) then (if x7 < (x1.length : Int) then (if x7 < (x5.length : Int) then (bI.l0 k x0 x1 (x5.set (x7 : Int).toNat (Go.bits .and .u64 (IntKind.u64.wrap ((IntKind.u64.wrap (x6 + (rd x0 x7))) + (rd x1 x7))) 4294967295)) ((IntKind.u64.wrap ((IntKind.u64.wrap (x6 + (rd x0 x7))) + (rd x1 x7))) / 4294967296) (wrap64 (x7 + 1))) else (none)) else (none)) else (none)) else (none)) else (some x5)
def bI.f (k : Nat) (l0 : List Int) (l1 : List Int) : Option (List Int) := if 6 ≤ 35184372088832 then (bI.l0 k l0 l1 (List.replicate 6 0) 0 0) else (none)
theorem bI.mono_l : ∀ k, (∀ y0 y1 y2 y3 y4, LeO (bI.l0 k y0 y1 y2 y3 y4) (bI.l0 (k + 1) y0 y1 y2 y3 y4))
 | 0 => fun _ _ _ _ _ r h => by simp [bI.l0] at h
 | k + 1 => by
  have ih0 := bI.mono_l k
  · intro y0 y1 y2 y3 y4
    unfold bI.l0
    repeat' first
    | (with_reducible exact ih0 _ _ _ _ _)
    | (with_reducible exact LeO.refl _)
    | (with_reducible exact LeO.none _)
    | (with_reducible refine LeO.ite ?_ ?_)
    | (with_reducible refine LeO.bind ?_ (fun _ => ?_))
    | exact ih0 _ _ _ _ _
    | exact LeO.none _
    | refine LeO.ite ?_ ?_
    | refine LeO.bind ?_ (fun _ => ?_)
theorem bI.mono : ∀ a0 a1 k, LeO (bI.f k a0 a1) (bI.f (k + 1) a0 a1) := by
 intro a0 a1 k
 have ih0 := bI.mono_l k
 unfold bI.f
 repeat' first
  | (with_reducible exact ih0 _ _ _ _ _)
  | (with_reducible exact LeO.refl _)
  | (with_reducible exact LeO.none _)
  | (with_reducible refine LeO.ite ?_ ?_)
  | (with_reducible refine LeO.bind ?_ (fun _ => ?_))
  | exact ih0 _ _ _ _ _
  | exact LeO.none _
  | refine LeO.ite ?_ ?_
  | refine LeO.bind ?_ (fun _ => ?_)
set_option maxHeartbeats 8000000 in
set_option maxRecDepth 100000 in
theorem bI.calls (k : Nat) (A0 : Option Addr) (c0 : Nat) (l0 : List Int) (A1 : Option Addr) (c1 : Nat) (l1 : List Int) (r : List Int) (w : World) (hr0 : Kd.C (Kd.int .u64) w A0 l0.length l0) (hc0 : l0.length ≤ c0) (hr1 : Kd.C (Kd.int .u64) w A1 l1.length l1) (hc1 : l1.length ≤ c1) (h : bI.f k l0 l1 = some r) :
 Calls Tryz.prog 133 #[.slice A0 l0.length c0, .slice A1 l1.length c1] w fun e w' => ∃ v0_ : Value, e = .returned (v0_) ∧ Kd.R (Kd.int .u64) 155 w' w.heap.size (fun _ => True) v0_ r ∧ Below w.heap.size w w' := by
 have HR0 := Aside0.mk hr0
 have HC0 := Aside0.mk hc0
 clear hr0 hc0
 have HR1 := Aside0.mk hr1
 have HC1 := Aside0.mk hc1
 clear hr1 hc1
 have HB := Aside0.mk (Below.refl w.heap.size w)
 have H : (if 6 ≤ 35184372088832 then (bI.l0 k l0 l1 (List.replicate 6 0) 0 0) else (none)) = some r := h
 clear h
 by_cases c3 : 6 ≤ 35184372088832
 · rw [if_pos c3] at H
   have c3b0 := eq_true c3
   have c3b1 : decide (6 ≤ 35184372088832) = true := decide_eq_true c3
   clear c3
   obtain ⟨y431, hy431⟩ : ∃ y_ : List Int, y_ = (List.replicate 6 0) := ⟨_, rfl⟩
   replace H : (bI.l0 k l0 l1 y431 0 0) = some r := by first | (rw [hy431]; with_reducible exact H) | (have H2_ := (Option.bind_some _ _).symm.trans H; rw [hy431]; with_reducible exact H2_) | (have H2_ := (Option.bind_some _ _).symm.trans H; with_reducible exact H2_) | with_reducible exact H | (rw [hy431]; exact H) | exact H
   have Ny431 := Aside0.mk hy431
   clear hy431
   have H' := Aside0.mk H
   clear H
   go_enter Tryz.func133, Tryz.ntmps133
   go_wp2_with (first | ((with_reducible refine gate_dst (N := 8) rfl ?_); refine Kd.R_make (Kd.int .u64) _ 155 rfl (N := 8) rfl 133 _ _ rfl 6 rfl rfl Tryz.underlying133 (.int .u64 0) 8 info155 rfl (by decide) (by omega) 0 (ok := fun _ => True) (okp := fun _ => True) rfl (fun _ hk => hk) trivial (by omega) (by omega) (Below.refl _ _) (Nat.le_refl _) ?_; intro v432 w4 ho5 hb hg_ hnew_; clear hg_ hnew_; (first | rw [← Ny431.out] at ho5 | (simp only [Int.reduceToNat] at ho5; rw [← Ny431.out] at ho5)); have n0_ := Aside0.mk (Kd.R_lower ho5 (zF (by repeat (first | (with_reducible first | exact HB.out | apply kO | apply kF | apply kQ) | exact HB.out)))); have n1_ := Aside0.mk (jZ (by repeat (first | (with_reducible first | exact HB.out | apply kO | apply kF | apply kQ) | exact HB.out)) hb); clear HB; have HO433 := n0_; have HB := n1_; clear n0_ n1_; clear hb ho5))
   repeat (go_quiet (first | ((with_reducible refine gate_dst (N := 8) rfl ?_); refine Kd.R_make (Kd.int .u64) _ 155 rfl (N := 8) rfl 133 _ _ rfl 6 rfl rfl Tryz.underlying133 (.int .u64 0) 8 info155 rfl (by decide) (by omega) 0 (ok := fun _ => True) (okp := fun _ => True) rfl (fun _ hk => hk) trivial (by omega) (by omega) (Below.refl _ _) (Nat.le_refl _) ?_; intro v432 w4 ho5 hb hg_ hnew_; clear hg_ hnew_; (first | rw [← Ny431.out] at ho5 | (simp only [Int.reduceToNat] at ho5; rw [← Ny431.out] at ho5)); have n0_ := Aside0.mk (Kd.R_lower ho5 (zF (by repeat (first | (with_reducible first | exact HB.out | apply kO | apply kF | apply kQ) | exact HB.out)))); have n1_ := Aside0.mk (jZ (by repeat (first | (with_reducible first | exact HB.out | apply kO | apply kF | apply kQ) | exact HB.out)) hb); clear HB; have HO433 := n0_; have HB := n1_; clear n0_ n1_; clear hb ho5)); try go_wp2_with (first | ((with_reducible refine gate_dst (N := 8) rfl ?_); refine Kd.R_make (Kd.int .u64) _ 155 rfl (N := 8) rfl 133 _ _ rfl 6 rfl rfl Tryz.underlying133 (.int .u64 0) 8 info155 rfl (by decide) (by omega) 0 (ok := fun _ => True) (okp := fun _ => True) rfl (fun _ hk => hk) trivial (by omega) (by omega) (Below.refl _ _) (Nat.le_refl _) ?_; intro v432 w4 ho5 hb hg_ hnew_; clear hg_ hnew_; (first | rw [← Ny431.out] at ho5 | (simp only [Int.reduceToNat] at ho5; rw [← Ny431.out] at ho5)); have n0_ := Aside0.mk (Kd.R_lower ho5 (zF (by repeat (first | (with_reducible first | exact HB.out | apply kO | apply kF | apply kQ) | exact HB.out)))); have n1_ := Aside0.mk (jZ (by repeat (first | (with_reducible first | exact HB.out | apply kO | apply kF | apply kQ) | exact HB.out)) hb); clear HB; have HO433 := n0_; have HB := n1_; clear n0_ n1_; clear hb ho5)))
   go_loopg [6, 7] k (fun kq v6 v7 w' => ∃ (x5_1 : List Int) (x6_1 : Int) (x7_1 : Int), v6 = .int .u64 x6_1 ∧ v7 = .int .i64 x7_1 ∧ Aside0 (bI.l0 kq l0 l1 x5_1 x6_1 x7_1 = some r) ∧ Aside0 (kq ≤ k) ∧ Aside0 (Kd.R (Kd.int .u64) 155 w' w.heap.size (fun _ => True) v432 x5_1) ∧ Aside0 (Below w.heap.size w w'))
   case atStart => exact ⟨(y431), (0), (0), (by first | rfl | (simp; done) | (simp [*]; done)), (by first | rfl | (simp; done) | (simp [*]; done)), H', ⟨Nat.le_refl _⟩, ⟨by (with_reducible repeat (first | apply Kd.R_alloc | apply Kd.R_drewN | apply Kd.R_drew)); exact HO433.out⟩, ⟨by repeat (first | (with_reducible first | exact HB.out | apply kO | apply kF | apply kQ) | exact HB.out)⟩⟩
   case round =>
    clear H'
    try clear c1
    try clear p2
    try clear c3
    try clear c3b0
    try clear c3b1
    obtain ⟨x5_1, x6_1, x7_1, rfl, rfl, HA, HK1, HO_5, HB⟩ := hrel
    cases gk with
    | zero => exact absurd HA.out (by simp [bI.l0])
    | succ k1 =>
     have H := HA.out
     clear HA
     simp only [bI.l0] at H
     by_cases c6 : x7_1 < 6
     · rw [if_pos c6] at H
       have c6b0 : decide (x7_1 < 6) = true := decide_eq_true c6
       clear c6
       by_cases c7 : 0 ≤ x7_1
       · rw [if_pos c7] at H
         have c7b0 : decide (0 ≤ x7_1) = true := decide_eq_true c7
         clear c7
         by_cases c8 : x7_1 < (l0.length : Int)
         · rw [if_pos c8] at H
           have c8b0 : decide (x7_1 < (l0.length : Int)) = true := decide_eq_true c8
           clear c8
           by_cases c9 : x7_1 < (l1.length : Int)
           · rw [if_pos c9] at H
             have c9b0 : decide (x7_1 < (l1.length : Int)) = true := decide_eq_true c9
             clear c9
             by_cases c10 : x7_1 < (x5_1.length : Int)
             · rw [if_pos c10] at H
               have c10b0 : decide (x7_1 < (x5_1.length : Int)) = true := decide_eq_true c10
               clear c10
               obtain ⟨y436, hy436⟩ : ∃ y_ : List Int, y_ = (x5_1.set (x7_1 : Int).toNat (Go.bits .and .u64 (IntKind.u64.wrap ((IntKind.u64.wrap (x6_1 + (rd l0 x7_1))) + (rd l1 x7_1))) 4294967295)) := ⟨_, rfl⟩
               replace H : (bI.l0 k1 l0 l1 y436 ((IntKind.u64.wrap ((IntKind.u64.wrap (x6_1 + (rd l0 x7_1))) + (rd l1 x7_1))) / 4294967296) (wrap64 (x7_1 + 1))) = some r := by first | (rw [hy436]; with_reducible exact H) | (have H2_ := (Option.bind_some _ _).symm.trans H; rw [hy436]; with_reducible exact H2_) | (have H2_ := (Option.bind_some _ _).symm.trans H; with_reducible exact H2_) | with_reducible exact H | (rw [hy436]; exact H) | exact H
               have Ny436 := Aside0.mk hy436
               clear hy436
               have H' := Aside0.mk H
               clear H
               have p434 : 0 ≤ (x7_1 : Int) := of_decide_eq_true (by first | (with_reducible assumption) | assumption)
               have q434 : x7_1 < (l0.length : Int) := of_decide_eq_true (by first | (with_reducible assumption) | assumption)
               obtain ⟨ad434, e434, hx434_0⟩ := Kd.at_int HR0.out x7_1 p434 q434
               cases e434
               replace hx434_0 := (HB.out.cell (World.block_lt_of_cell? w _ hx434_0)).trans hx434_0
               replace p434 := eq_true p434
               replace q434 := eq_true q434
               have p435 : 0 ≤ (x7_1 : Int) := of_decide_eq_true (by first | (with_reducible assumption) | assumption)
               have q435 : x7_1 < (l1.length : Int) := of_decide_eq_true (by first | (with_reducible assumption) | assumption)
               obtain ⟨ad435, e435, hx435_0⟩ := Kd.at_int HR1.out x7_1 p435 q435
               cases e435
               replace hx435_0 := (HB.out.cell (World.block_lt_of_cell? w _ hx435_0)).trans hx435_0
               replace p435 := eq_true p435
               replace q435 := eq_true q435
               have p11 : 0 ≤ (x7_1 : Int) := of_decide_eq_true (by first | (with_reducible assumption) | assumption)
               have q11 : (x7_1 : Int) < ((x5_1.length : Int) : Int) := of_decide_eq_true (by first | (with_reducible assumption) | assumption)
               obtain ⟨go11, co11, eo11, gb11, gl11, cl11, HG11⟩ := Kd.R_form HO_5.out (by omega)
               (first | cases eo11 | (injection eo11 with ea_ en_ ec_; (first | subst ea_ | (injection ea_ with ea_; subst ea_)); subst ec_; clear en_))
               have GB11 := Aside0.mk gb11
               have GG11 := Aside0.mk HG11
               clear gb11 gl11 HG11
               obtain ⟨hx11_0, hf11_0⟩ := Kd.R_celln 0 HO_5.out (x7_1 : Int) p11 q11
               replace p11 := eq_true p11
               replace q11 := eq_true q11
               have HP12 := Kd.R_putg HO_5.out (x7_1 : Int) (Go.bits .and .u64 (IntKind.u64.wrap ((IntKind.u64.wrap (x6_1 + (rd l0 x7_1))) + (rd l1 x7_1))) 4294967295)
               go_wp2_with (first | ((with_reducible refine gate_store (t := 155) (p := 28) rfl ?_); (try (rw [drewN_self wr]; generalize hq_ : World.drewN wr _ = wr; have n0_ := Aside0.mk (Kd.R_at hq_ HO_5.out); have n1_ := Aside0.mk (below_at hq_ HB.out); clear hq_ HO_5 HB; have HO_5 := n0_; have HB := n1_; clear n0_ n1_; (try (obtain ⟨hxr_, hfr_⟩ := Kd.R_celln 0 HO_5.out (x7_1 : Int) (of_eq_true p11) (of_eq_true q11))); (try (have HP12 := Kd.R_putg HO_5.out (x7_1 : Int) (Go.bits .and .u64 (IntKind.u64.wrap ((IntKind.u64.wrap (x6_1 + (rd l0 x7_1))) + (rd l1 x7_1))) 4294967295))))); refine store_event (t := 155) (p := 28) (v := ?vo_w13) (w1 := (wr.setCell ⟨go11, (x7_1 : Int).toNat, none⟩ (.int .u64 (Go.bits .and .u64 (IntKind.u64.wrap ((IntKind.u64.wrap (x6_1 + (rd l0 x7_1))) + (rd l1 x7_1))) 4294967295)))) ?hg ?ho ?hn ?hr ?_; (case ho => rfl); (case hg => rfl); (case hn => rfl); (case hr => first | (go_simp; done) | (go_simp; rfl)); intro w13 hw; have hg : wr.grownBy w13 (some go11) := (by rw [hw]; exact HP12.2); have hp_ : Kd.R (Kd.int .u64) 155 w13 w.heap.size (fun _ => True) (.slice (some ⟨go11, 0, none⟩) x5_1.length co11) y436 := (by rw [hw, Ny436.out]; exact HP12.1); clear HP12; have n0_ := Aside0.mk (hp_); have n1_ := Aside0.mk ((by rw [hw]; exact bA (HB.out) GB11.out : Below w.heap.size w w13)); clear HO_5; clear HB; have HO_5 := n0_; have HB := n1_; clear n0_ n1_; clear hg hw hp_))
               repeat (go_quiet (first | ((with_reducible refine gate_store (t := 155) (p := 28) rfl ?_); (try (rw [drewN_self wr]; generalize hq_ : World.drewN wr _ = wr; have n0_ := Aside0.mk (Kd.R_at hq_ HO_5.out); have n1_ := Aside0.mk (below_at hq_ HB.out); clear hq_ HO_5 HB; have HO_5 := n0_; have HB := n1_; clear n0_ n1_; (try (obtain ⟨hxr_, hfr_⟩ := Kd.R_celln 0 HO_5.out (x7_1 : Int) (of_eq_true p11) (of_eq_true q11))); (try (have HP12 := Kd.R_putg HO_5.out (x7_1 : Int) (Go.bits .and .u64 (IntKind.u64.wrap ((IntKind.u64.wrap (x6_1 + (rd l0 x7_1))) + (rd l1 x7_1))) 4294967295))))); refine store_event (t := 155) (p := 28) (v := ?vo_w13) (w1 := (wr.setCell ⟨go11, (x7_1 : Int).toNat, none⟩ (.int .u64 (Go.bits .and .u64 (IntKind.u64.wrap ((IntKind.u64.wrap (x6_1 + (rd l0 x7_1))) + (rd l1 x7_1))) 4294967295)))) ?hg ?ho ?hn ?hr ?_; (case ho => rfl); (case hg => rfl); (case hn => rfl); (case hr => first | (go_simp; done) | (go_simp; rfl)); intro w13 hw; have hg : wr.grownBy w13 (some go11) := (by rw [hw]; exact HP12.2); have hp_ : Kd.R (Kd.int .u64) 155 w13 w.heap.size (fun _ => True) (.slice (some ⟨go11, 0, none⟩) x5_1.length co11) y436 := (by rw [hw, Ny436.out]; exact HP12.1); clear HP12; have n0_ := Aside0.mk (hp_); have n1_ := Aside0.mk ((by rw [hw]; exact bA (HB.out) GB11.out : Below w.heap.size w w13)); clear HO_5; clear HB; have HO_5 := n0_; have HB := n1_; clear n0_ n1_; clear hg hw hp_)); try go_wp2_with (first | ((with_reducible refine gate_store (t := 155) (p := 28) rfl ?_); (try (rw [drewN_self wr]; generalize hq_ : World.drewN wr _ = wr; have n0_ := Aside0.mk (Kd.R_at hq_ HO_5.out); have n1_ := Aside0.mk (below_at hq_ HB.out); clear hq_ HO_5 HB; have HO_5 := n0_; have HB := n1_; clear n0_ n1_; (try (obtain ⟨hxr_, hfr_⟩ := Kd.R_celln 0 HO_5.out (x7_1 : Int) (of_eq_true p11) (of_eq_true q11))); (try (have HP12 := Kd.R_putg HO_5.out (x7_1 : Int) (Go.bits .and .u64 (IntKind.u64.wrap ((IntKind.u64.wrap (x6_1 + (rd l0 x7_1))) + (rd l1 x7_1))) 4294967295))))); refine store_event (t := 155) (p := 28) (v := ?vo_w13) (w1 := (wr.setCell ⟨go11, (x7_1 : Int).toNat, none⟩ (.int .u64 (Go.bits .and .u64 (IntKind.u64.wrap ((IntKind.u64.wrap (x6_1 + (rd l0 x7_1))) + (rd l1 x7_1))) 4294967295)))) ?hg ?ho ?hn ?hr ?_; (case ho => rfl); (case hg => rfl); (case hn => rfl); (case hr => first | (go_simp; done) | (go_simp; rfl)); intro w13 hw; have hg : wr.grownBy w13 (some go11) := (by rw [hw]; exact HP12.2); have hp_ : Kd.R (Kd.int .u64) 155 w13 w.heap.size (fun _ => True) (.slice (some ⟨go11, 0, none⟩) x5_1.length co11) y436 := (by rw [hw, Ny436.out]; exact HP12.1); clear HP12; have n0_ := Aside0.mk (hp_); have n1_ := Aside0.mk ((by rw [hw]; exact bA (HB.out) GB11.out : Below w.heap.size w w13)); clear HO_5; clear HB; have HO_5 := n0_; have HB := n1_; clear n0_ n1_; clear hg hw hp_)))
               go_roundg k1
               case measure => have := HK1.out; omega
               case rel => exact ⟨(y436), ((IntKind.u64.wrap ((IntKind.u64.wrap (x6_1 + (rd l0 x7_1))) + (rd l1 x7_1))) / 4294967296), (wrap64 (x7_1 + 1)), (by first | rfl | (simp; done) | (simp [*]; done)), (by first | rfl | (simp; done) | (simp [*]; done)), H', ⟨by have := HK1.out; omega⟩, ⟨by (with_reducible repeat (first | apply Kd.R_alloc | apply Kd.R_drewN | apply Kd.R_drew)); exact HO_5.out⟩, ⟨by repeat (first | (with_reducible first | exact HB.out | apply kO | apply kF | apply kQ) | exact HB.out)⟩⟩
             · rw [if_neg c10] at H
               exact absurd H (by simp)
           · rw [if_neg c9] at H
             exact absurd H (by simp)
         · rw [if_neg c8] at H
           exact absurd H (by simp)
       · rw [if_neg c7] at H
         exact absurd H (by simp)
     · rw [if_neg c6] at H
       have c6b0 : decide (x7_1 < 6) = false := decide_eq_false c6
       clear c6
       obtain rfl := Option.some.inj H
       go_wp2
       repeat (go_quiet (fail); try go_wp2)
       go_ret
       exact ⟨_, by first | rfl | (simp [zR, zS] <;> rfl) | (simp [*, zR, zS] <;> rfl), by (with_reducible repeat (first | apply Kd.R_alloc | apply Kd.R_drewN | apply Kd.R_drew)); exact HO_5.out, by repeat (first | (with_reducible first | exact HB.out | apply kO | apply kF | apply kQ) | exact HB.out)⟩
 · rw [if_neg c3] at H
   exact absurd H (by simp)
def bG.l0 : Nat → List Int → List Int → Int → Option (Int)
 | 0, _, _, _ => none
 | k + 1, x0, x1, x5 => if x5 ≥ 0 then (if 0 ≤ x5 then (if x5 < (x0.length : Int) then (if x5 < (x1.length : Int) then (if (rd x0 x5) < (rd x1 x5) then (some (-1)) else (if (rd x0 x5) > (rd x1 x5) then (some 1) else (bG.l0 k x0 x1 (wrap64 (x5 - 1))))) else (none)) else (none)) else (none)) else (some 0)
def bG.f (k : Nat) (l0 : List Int) (l1 : List Int) : Option (Int) := bG.l0 k l0 l1 5
theorem bG.mono_l : ∀ k, (∀ y0 y1 y2, LeO (bG.l0 k y0 y1 y2) (bG.l0 (k + 1) y0 y1 y2))
 | 0 => fun _ _ _ r h => by simp [bG.l0] at h
 | k + 1 => by
  have ih0 := bG.mono_l k
  · intro y0 y1 y2
    unfold bG.l0
    repeat' first
    | (with_reducible exact ih0 _ _ _)
    | (with_reducible exact LeO.refl _)
    | (with_reducible exact LeO.none _)
    | (with_reducible refine LeO.ite ?_ ?_)
    | (with_reducible refine LeO.bind ?_ (fun _ => ?_))
    | exact ih0 _ _ _
    | exact LeO.none _
    | refine LeO.ite ?_ ?_
    | refine LeO.bind ?_ (fun _ => ?_)
theorem bG.mono : ∀ a0 a1 k, LeO (bG.f k a0 a1) (bG.f (k + 1) a0 a1) := by
 intro a0 a1 k
 have ih0 := bG.mono_l k
 unfold bG.f
 repeat' first
  | (with_reducible exact ih0 _ _ _)
  | (with_reducible exact LeO.refl _)
  | (with_reducible exact LeO.none _)
  | (with_reducible refine LeO.ite ?_ ?_)
  | (with_reducible refine LeO.bind ?_ (fun _ => ?_))
  | exact ih0 _ _ _
  | exact LeO.none _
  | refine LeO.ite ?_ ?_
  | refine LeO.bind ?_ (fun _ => ?_)
set_option maxHeartbeats 8000000 in
set_option maxRecDepth 100000 in
theorem bG.calls (k : Nat) (A0 : Option Addr) (c0 : Nat) (l0 : List Int) (A1 : Option Addr) (c1 : Nat) (l1 : List Int) (r : Int) (w : World) (hr0 : Kd.C (Kd.int .u64) w A0 l0.length l0) (hc0 : l0.length ≤ c0) (hr1 : Kd.C (Kd.int .u64) w A1 l1.length l1) (hc1 : l1.length ≤ c1) (h : bG.f k l0 l1 = some r) :
 Calls Tryz.prog 134 #[.slice A0 l0.length c0, .slice A1 l1.length c1] w fun e w' => e = .returned (.int .i64 r) ∧ Drawn0 w w' := by
 have HR0 := Aside0.mk hr0
 have HC0 := Aside0.mk hc0
 clear hr0 hc0
 have HR1 := Aside0.mk hr1
 have HC1 := Aside0.mk hc1
 clear hr1 hc1
 have H : (bG.l0 k l0 l1 5) = some r := h
 clear h
 have H' := Aside0.mk H
 clear H
 go_enter Tryz.func134, Tryz.ntmps134
 go_wp2
 repeat (go_quiet (fail); try go_wp2)
 go_loopg [5] k (fun kq v5 w' => ∃ (x5_1 : Int), v5 = .int .i64 x5_1 ∧ Aside0 (bG.l0 kq l0 l1 x5_1 = some r) ∧ Aside0 (kq ≤ k) ∧ Drawn0 w w')
 case atStart => exact ⟨(5), (by first | rfl | (simp; done) | (simp [*]; done)), H', ⟨Nat.le_refl _⟩, by repeat (first | exact Drawn0.refl _ | apply Drawn0.step)⟩
 case round =>
  clear H'
  try clear c1
  try clear p2
  obtain ⟨x5_1, rfl, HA, HK1, ⟨m1, rfl⟩⟩ := hrel
  cases gk with
  | zero => exact absurd HA.out (by simp [bG.l0])
  | succ k1 =>
   have H := HA.out
   clear HA
   simp only [bG.l0] at H
   by_cases c3 : x5_1 ≥ 0
   · rw [if_pos c3] at H
     have c3b0 : decide (0 ≤ x5_1) = true := decide_eq_true c3
     clear c3
     by_cases c4 : 0 ≤ x5_1
     · rw [if_pos c4] at H
       have c4b0 : decide (0 ≤ x5_1) = true := decide_eq_true c4
       clear c4
       by_cases c5 : x5_1 < (l0.length : Int)
       · rw [if_pos c5] at H
         have c5b0 : decide (x5_1 < (l0.length : Int)) = true := decide_eq_true c5
         clear c5
         by_cases c6 : x5_1 < (l1.length : Int)
         · rw [if_pos c6] at H
           have c6b0 : decide (x5_1 < (l1.length : Int)) = true := decide_eq_true c6
           clear c6
           by_cases c7 : (rd l0 x5_1) < (rd l1 x5_1)
           · rw [if_pos c7] at H
             have c7b0 : decide ((rd l0 x5_1) < (rd l1 x5_1)) = true := decide_eq_true c7
             clear c7
             obtain rfl := Option.some.inj H
             have p437 : 0 ≤ (x5_1 : Int) := of_decide_eq_true (by first | (with_reducible assumption) | assumption)
             have q437 : x5_1 < (l0.length : Int) := of_decide_eq_true (by first | (with_reducible assumption) | assumption)
             obtain ⟨ad437, e437, hx437_0⟩ := Kd.at_int HR0.out x5_1 p437 q437
             cases e437
             replace p437 := eq_true p437
             replace q437 := eq_true q437
             have p438 : 0 ≤ (x5_1 : Int) := of_decide_eq_true (by first | (with_reducible assumption) | assumption)
             have q438 : x5_1 < (l1.length : Int) := of_decide_eq_true (by first | (with_reducible assumption) | assumption)
             obtain ⟨ad438, e438, hx438_0⟩ := Kd.at_int HR1.out x5_1 p438 q438
             cases e438
             replace p438 := eq_true p438
             replace q438 := eq_true q438
             go_wp2
             repeat (go_quiet (fail); try go_wp2)
             go_ret
             exact ⟨by first | rfl | (simp; done) | (simp [*]; done), by repeat (first | exact Drawn0.refl _ | apply Drawn0.step)⟩
           · rw [if_neg c7] at H
             have c7b0 : decide ((rd l0 x5_1) < (rd l1 x5_1)) = false := decide_eq_false c7
             clear c7
             by_cases c8 : (rd l0 x5_1) > (rd l1 x5_1)
             · rw [if_pos c8] at H
               have c8b0 : decide ((rd l1 x5_1) < (rd l0 x5_1)) = true := decide_eq_true c8
               clear c8
               obtain rfl := Option.some.inj H
               have p437 : 0 ≤ (x5_1 : Int) := of_decide_eq_true (by first | (with_reducible assumption) | assumption)
               have q437 : x5_1 < (l0.length : Int) := of_decide_eq_true (by first | (with_reducible assumption) | assumption)
               obtain ⟨ad437, e437, hx437_0⟩ := Kd.at_int HR0.out x5_1 p437 q437
               cases e437
               replace p437 := eq_true p437
               replace q437 := eq_true q437
               have p438 : 0 ≤ (x5_1 : Int) := of_decide_eq_true (by first | (with_reducible assumption) | assumption)
               have q438 : x5_1 < (l1.length : Int) := of_decide_eq_true (by first | (with_reducible assumption) | assumption)
               obtain ⟨ad438, e438, hx438_0⟩ := Kd.at_int HR1.out x5_1 p438 q438
               cases e438
               replace p438 := eq_true p438
               replace q438 := eq_true q438
               have p439 : 0 ≤ (x5_1 : Int) := of_decide_eq_true (by first | (with_reducible assumption) | assumption)
               have q439 : x5_1 < (l0.length : Int) := of_decide_eq_true (by first | (with_reducible assumption) | assumption)
               obtain ⟨ad439, e439, hx439_0⟩ := Kd.at_int HR0.out x5_1 p439 q439
               obtain rfl : ad437 = ad439 := (by injection e439)
               replace p439 := eq_true p439
               replace q439 := eq_true q439
               have p440 : 0 ≤ (x5_1 : Int) := of_decide_eq_true (by first | (with_reducible assumption) | assumption)
               have q440 : x5_1 < (l1.length : Int) := of_decide_eq_true (by first | (with_reducible assumption) | assumption)
               obtain ⟨ad440, e440, hx440_0⟩ := Kd.at_int HR1.out x5_1 p440 q440
               obtain rfl : ad438 = ad440 := (by injection e440)
               replace p440 := eq_true p440
               replace q440 := eq_true q440
               go_wp2
               repeat (go_quiet (fail); try go_wp2)
               go_ret
               exact ⟨by first | rfl | (simp; done) | (simp [*]; done), by repeat (first | exact Drawn0.refl _ | apply Drawn0.step)⟩
             · rw [if_neg c8] at H
               have c8b0 : decide ((rd l1 x5_1) < (rd l0 x5_1)) = false := decide_eq_false c8
               clear c8
               have H' := Aside0.mk H
               clear H
               have p437 : 0 ≤ (x5_1 : Int) := of_decide_eq_true (by first | (with_reducible assumption) | assumption)
               have q437 : x5_1 < (l0.length : Int) := of_decide_eq_true (by first | (with_reducible assumption) | assumption)
               obtain ⟨ad437, e437, hx437_0⟩ := Kd.at_int HR0.out x5_1 p437 q437
               cases e437
               replace p437 := eq_true p437
               replace q437 := eq_true q437
               have p438 : 0 ≤ (x5_1 : Int) := of_decide_eq_true (by first | (with_reducible assumption) | assumption)
               have q438 : x5_1 < (l1.length : Int) := of_decide_eq_true (by first | (with_reducible assumption) | assumption)
               obtain ⟨ad438, e438, hx438_0⟩ := Kd.at_int HR1.out x5_1 p438 q438
               cases e438
               replace p438 := eq_true p438
               replace q438 := eq_true q438
               have p439 : 0 ≤ (x5_1 : Int) := of_decide_eq_true (by first | (with_reducible assumption) | assumption)
               have q439 : x5_1 < (l0.length : Int) := of_decide_eq_true (by first | (with_reducible assumption) | assumption)
               obtain ⟨ad439, e439, hx439_0⟩ := Kd.at_int HR0.out x5_1 p439 q439
               obtain rfl : ad437 = ad439 := (by injection e439)
               replace p439 := eq_true p439
               replace q439 := eq_true q439
               have p440 : 0 ≤ (x5_1 : Int) := of_decide_eq_true (by first | (with_reducible assumption) | assumption)
               have q440 : x5_1 < (l1.length : Int) := of_decide_eq_true (by first | (with_reducible assumption) | assumption)
               obtain ⟨ad440, e440, hx440_0⟩ := Kd.at_int HR1.out x5_1 p440 q440
               obtain rfl : ad438 = ad440 := (by injection e440)
               replace p440 := eq_true p440
               replace q440 := eq_true q440
               go_wp2
               repeat (go_quiet (fail); try go_wp2)
               go_roundg k1
               case measure => have := HK1.out; omega
               case rel => exact ⟨(wrap64 (x5_1 - 1)), (by first | rfl | (simp; done) | (simp [*]; done)), H', ⟨by have := HK1.out; omega⟩, by repeat (first | exact Drawn0.refl _ | apply Drawn0.step)⟩
         · rw [if_neg c6] at H
           exact absurd H (by simp)
       · rw [if_neg c5] at H
         exact absurd H (by simp)
     · rw [if_neg c4] at H
       exact absurd H (by simp)
   · rw [if_neg c3] at H
     have c3b0 : decide (0 ≤ x5_1) = false := decide_eq_false c3
     clear c3
     obtain rfl := Option.some.inj H
     go_wp2
     repeat (go_quiet (fail); try go_wp2)
     go_ret
     exact ⟨by first | rfl | (simp; done) | (simp [*]; done), by repeat (first | exact Drawn0.refl _ | apply Drawn0.step)⟩
def zJ.f (k : Nat) (l0 : List Int) : Option (Bool) := if 6 ≤ 35184372088832 then ((bG.f k l0 (List.replicate 6 0)).bind fun t444 => (some (t444 == 0))) else (none)
set_option maxHeartbeats 8000000 in
set_option maxRecDepth 100000 in
theorem zJ.calls (k : Nat) (A0 : Option Addr) (c0 : Nat) (l0 : List Int) (r : Bool) (w : World) (hr0 : Kd.C (Kd.int .u64) w A0 l0.length l0) (hc0 : l0.length ≤ c0) (h : zJ.f k l0 = some r) :
 Calls Tryz.prog 136 #[.slice A0 l0.length c0] w fun e w' => e = .returned (.bool r) ∧ Below w.heap.size w w' := by
 have HR0 := Aside0.mk hr0
 have HC0 := Aside0.mk hc0
 clear hr0 hc0
 have HB := Aside0.mk (Below.refl w.heap.size w)
 have H : (if 6 ≤ 35184372088832 then ((bG.f k l0 (List.replicate 6 0)).bind fun t444 => (some (t444 == 0))) else (none)) = some r := h
 clear h
 by_cases c2 : 6 ≤ 35184372088832
 · rw [if_pos c2] at H
   have c2b0 := eq_true c2
   have c2b1 : decide (6 ≤ 35184372088832) = true := decide_eq_true c2
   clear c2
   obtain ⟨y441, hy441⟩ : ∃ y_ : List Int, y_ = (List.replicate 6 0) := ⟨_, rfl⟩
   replace H : ((bG.f k l0 y441).bind fun t444 => (some (t444 == 0))) = some r := by first | (rw [hy441]; with_reducible exact H) | (have H2_ := (Option.bind_some _ _).symm.trans H; rw [hy441]; with_reducible exact H2_) | (have H2_ := (Option.bind_some _ _).symm.trans H; with_reducible exact H2_) | with_reducible exact H | (rw [hy441]; exact H) | exact H
   have Ny441 := Aside0.mk hy441
   clear hy441
   replace H := Option.bind_eq_some_iff.mp H
   obtain ⟨t444, A30, H⟩ := H
   replace H : (some (t444 == 0)) = some r := H
   have A3 := Aside0.mk A30
   clear A30
   obtain rfl := Option.some.inj H
   go_enter Tryz.func136, Tryz.ntmps136
   go_wp2_with (first | ((with_reducible refine gate_dst (N := 4) rfl ?_); refine Kd.R_make (Kd.int .u64) _ 155 rfl (N := 4) rfl 133 _ _ rfl 6 rfl rfl Tryz.underlying133 (.int .u64 0) 8 info155 rfl (by decide) (by omega) 0 (ok := fun _ => True) (okp := fun _ => True) rfl (fun _ hk => hk) trivial (by omega) (by omega) (Below.refl _ _) (Nat.le_refl _) ?_; intro v442 w4 ho5 hb hg_ hnew_; clear hg_ hnew_; (first | rw [← Ny441.out] at ho5 | (simp only [Int.reduceToNat] at ho5; rw [← Ny441.out] at ho5)); have n0_ := Aside0.mk (Kd.R_lower ho5 (zF (by repeat (first | (with_reducible first | exact HB.out | apply kO | apply kF | apply kQ) | exact HB.out)))); have n1_ := Aside0.mk (jZ (by repeat (first | (with_reducible first | exact HB.out | apply kO | apply kF | apply kQ) | exact HB.out)) hb); clear HB; have HO443 := n0_; have HB := n1_; clear n0_ n1_; clear hb ho5; obtain ⟨Ao6, co6, eo6⟩ := Kd.R_slice HO443.out; subst eo6) | ((with_reducible refine kW (f := 134) rfl ?_); refine jI (some 5) rfl rfl Tryz.func134 (by kernel_rfl) rfl #[.slice A0 l0.length c0, .slice Ao6 y441.length co6] rfl (by (try simp only [List.map_toArray, List.map_cons, List.map_nil]); first | done | rfl | (simp only [List.length_drop, List.length_take]; rfl)) ?_; (with_reducible refine (bG.calls k _ _ l0 _ _ y441 t444 _ ?side1 ?side2 ?side3 ?side4 A3.out).mono ?_); (case side1 => repeat (first | exact (Kd.C_below HR0.out HB.out) | (with_reducible refine Kd.C_alloc ?_ _) | (with_reducible refine Kd.C_drewN ?_ _) | (with_reducible refine Kd.C_drew ?_))); (case side2 => exact HC0.out); (case side3 => repeat (first | exact (Kd.R_reads' HO443.out).2.2 | (with_reducible refine Kd.C_alloc ?_ _) | (with_reducible refine Kd.C_drewN ?_ _) | (with_reducible refine Kd.C_drew ?_))); (case side4 => exact (Kd.R_reads' HO443.out).2.1); rintro e w' ⟨rfl, ⟨nd, rfl⟩⟩; refine ⟨_, rfl, ?_⟩))
   go_ret
   exact ⟨by first | rfl | (simp [zR, zS] <;> rfl) | (simp [*, zR, zS] <;> rfl), by repeat (first | (with_reducible first | exact HB.out | apply kO | apply kF | apply kQ) | exact HB.out)⟩
 · rw [if_neg c2] at H
   exact absurd H (by simp)
end Go.Proofs.YtimgphlfaninnaaGreat.P
