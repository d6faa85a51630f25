/- What the reference's Count comes to, and its Ints. -/
import Derived.Test.YteceeoaabmbckaaQgbpkefpolb
import Derived.Test.YteceeoaabmbckaaQdboclfmcoc
import Derived.Test.YteceeoaabmbckaaQlnmfplnpif
import Derived.Test.YteceeoaabmbckaaQgpippedcej
import Derived.Test.YteceeoaabmbckaaQbpcjcioeem
import Derived.Test.YteceeoaabmbckaaQkcobomebid
import Derived.Test.YteceeoaabmbckaaQmenacjjhmp
import Derived.Test.YteceeoaabmbckaaQnfimnniaco
import Derived.Test.YteceeoaabmbckaaQjpaklppbmf
import Derived.Test.YteceeoaabmbckaaQbipflkhnkk
import Derived.Test.YteceeoaabmbckaaQmjhodgighc
import Derived.Test.YteceeoaabmbckaaQcejcjgmolp
namespace Go.Proofs.Yteceeoaabmbckaa.Civ
set_option linter.unusedVariables false
set_option linter.unusedSimpArgs false
open Go.RowKit Go.Proofs.YteceeoaabmbckaaW.PrintWords Go.Proofs.YteceeoaabmbckaaW.PrintLast Go.Proofs.YteceeoaabmbckaaW.PrintMore Go.Proofs.Yteceeoaabmbckaa.P
theorem dg_neg (x : Int) : dg (-x) = dg x := by unfold dg ab; congr 1; split <;> split <;> omega
theorem cnW_dg (x : Int) (n : Bool) : cnW (some (n, dg x)) = some (n, dg x) := rfl
theorem cnW_ev {f : Nat → Option (Bool × List Int)} {n : Bool} {x : Int} (h : Ev f (n, dg x)) : Ev (fun k => cnW (f k)) (n, dg x) := by
  unfold cnW
  exact Ev.bind h (Ev.pos rfl (Ev.now _))
theorem cnMi_ev {x : Int} (h : Wide x) : Ev (fun k => cnMi k (ng x) (dg x)) (ng (-x)) := by
  have hb := ab_wide h
  unfold cnMi
  by_cases g : x < 0
  · rw [ng_true g, ng_false (by omega)]
    exact Ev.pos rfl (Ev.now _)
  · rw [ng_false g]
    refine Ev.neg (by decide) (Ev.bind (zero_ev hb.1 hb.2) ?_)
    have : (!decide (ab x = 0)) = ng (-x) := by
      by_cases z : x = 0
      · subst z; rfl
      · rw [decide_eq_false (fun f => z (ab_zero.1 f)), ng_true (by omega)]; rfl
    rw [this]; exact Ev.now _
theorem cnOr_eq (x y : Int) : cnOr x y = Go.bits .or .u64 (IntKind.u64.wrap (x * 4294967296)) y := by rfl
theorem cnEnd_ev {g y : Int} (hg : 0 ≤ g) (hg1 : g ≤ 18446744073709551615) (hy : 0 < y) (hy1 : y ≤ 18446744073709551615) :
    Ev (fun k => cnEnd k (dg g) (ng y) (dg y)) (if g / y + 1 ≤ 18446744073709551615 then (g / y + 1, 0) else (0, 10)) := by
  have hq := div_bd hg hy
  have hov := over_ev (x := g) (y := y) (by unfold Half; omega) (by unfold Half; omega) (by omega)
  rw [fl_pos hy, ng_false (x := g) (by omega)] at hov
  have hpl := plus_ev (x := g / y) (y := 1) (by unfold Wide; omega) (by unfold Wide; omega) (by unfold Wide; omega)
  unfold cnEnd
  refine Ev.bind (cnW_ev hov) (Ev.bind0 (show cnW (computusref01_Of.f 1) = some (ng 1, dg 1) by rw [of_eq 1 (by unfold I64; omega), cnW_dg]) (Ev.bind (cnW_ev hpl) ?_))
  have hn : 0 ≤ g / y + 1 := by omega
  have hn1 : g / y + 1 ≤ 18446744073709551616 := by omega
  generalize g / y + 1 = n at *
  have ed : dg n = dig n := by unfold dg; rw [ab_pos hn]
  have e0 : cnAt (dg n) 0 = n % 4294967296 := by rw [ed]; rfl
  have e1 : cnAt (dg n) 1 = n / 4294967296 % 4294967296 := by rw [ed]; rfl
  have e2 : cnAt (dg n) 2 = n / 4294967296 / 4294967296 % 4294967296 := by rw [ed]; rfl
  simp only [e0, e1, e2]
  by_cases h : n ≤ 18446744073709551615
  · refine Ev.pos (by omega) ?_
    rw [if_pos h, cnOr_eq, u64w (by omega) (by omega), orj 32 (by omega) (by omega) (by omega) (by omega) (by omega) (by omega)]
    refine Ev.cast (Ev.now _) ?_
    congr 1; omega
  · rw [if_neg h]
    exact Ev.neg (by omega) (Ev.now _)
theorem rcount_ev {a b s : Int} (ha : I64 a) (hb : I64 b) (hs : I64 s) : Ev (fun k => computusref21_Count.f k a b s) (cntR a b s) := by
  have ha' := ha
  have hb' := hb
  have hs' := hs
  unfold I64 at ha' hb' hs'
  unfold computusref21_Count.f cntR
  by_cases h : s = 0
  · rw [if_pos h]; exact Ev.pos h (Ev.now _)
  rw [if_neg h]
  refine Ev.neg h ?_
  simp only [of_eq a ha, of_eq b hb, of_eq s hs, cnW_dg, Option.bind_some]
  refine Ev.bind (cnMi_ev (wide_i64 ha)) ?_
  have ew : ∀ x, cnSixL (dg x) = dg x := fun _ => rfl
  simp only [ew]
  rw [← dg_neg a]
  have hp := plus_ev (x := b) (y := -a) (wide_i64 hb) (by unfold Wide; omega) (by unfold Wide; omega)
  refine Ev.bind (cnW_ev hp) ?_
  by_cases g : s < 0
  · refine Ev.pos g (Ev.bind (cnMi_ev (by unfold Wide; omega)) (Ev.bind (cnMi_ev (wide_i64 hs)) ?_))
    rw [cntS_down a b (by omega)]
    by_cases q : b > a
    · rw [if_pos q, if_pos (by omega)]
      exact Ev.pos (by unfold ng; simp; omega) (Ev.now _)
    · rw [if_neg q]
      refine Ev.neg (by unfold ng; simp; omega) ?_
      rw [← dg_neg s, ← dg_neg (b + -a), show -(b + -a) = a - b by omega]
      exact cnEnd_ev (by omega) (by omega) (by omega) (by omega)
  · refine Ev.neg g ?_
    rw [cntS_up a b (by omega)]
    by_cases q : a > b
    · rw [if_pos q, if_pos (by omega)]
      exact Ev.pos (by unfold ng; simp; omega) (Ev.now _)
    · rw [if_neg q]
      refine Ev.neg (by unfold ng; simp; omega) ?_
      rw [show b + -a = b - a by omega]
      exact cnEnd_ev (by omega) (by omega) (by omega) (by omega)
/-- A number that is reached lies within both ends as long as there are more. -/
theorem cnt_up {a b s : Int} (hs : s > 0) {i : Nat} : a + i * s ≤ b ↔ (i : Int) < cntS a b s := by
  rw [cntS_up a b hs]
  have h0 : 0 ≤ (i : Int) * s := Int.mul_nonneg (by omega) (by omega)
  by_cases q : a > b
  · rw [if_pos q]; omega
  · rw [if_neg q]
    have := Int.le_ediv_iff_mul_le (a := (i : Int)) (b := b - a) hs
    omega
theorem cnt_down {a b s : Int} (hs : s < 0) {i : Nat} : a + i * s ≥ b ↔ (i : Int) < cntS a b s := by
  rw [cntS_down a b (by omega)]
  have h0 : 0 ≤ (i : Int) * -s := Int.mul_nonneg (by omega) (by omega)
  have h1 : (i : Int) * -s = -((i : Int) * s) := Int.mul_neg _ _
  by_cases q : b > a
  · rw [if_pos q]; omega
  · rw [if_neg q]
    have := Int.le_ediv_iff_mul_le (a := (i : Int)) (b := a - b) (c := -s) (by omega)
    omega
theorem rints_in (k : Nat) {a b s m : Int} (h0 : s ≠ 0) {i : Nat} (hi : (i : Int) < cntS a b s) (l : List Int) : computusref21_Ints.l0 (k + 1) b s m l (a + i * s) = computusref21_Ints.j2 k b s m l (a + i * s) true := by
  simp only [computusref21_Ints.l0]
  by_cases g : s > 0
  · rw [if_pos g, if_pos ((cnt_up g).2 hi)]
  · rw [if_neg g, if_pos (by omega), decide_eq_true ((cnt_down (by omega)).2 hi)]
theorem rints_out (k : Nat) {a b s m : Int} (h0 : s ≠ 0) {i : Nat} (hi : ¬ (i : Int) < cntS a b s) (l : List Int) : computusref21_Ints.l0 (k + 1) b s m l (a + i * s) = computusref21_Ints.j2 k b s m l (a + i * s) false := by
  simp only [computusref21_Ints.l0]
  by_cases g : s > 0
  · rw [if_pos g, if_neg (fun h => hi ((cnt_up g).1 h)), if_neg (by omega)]
  · rw [if_neg g, if_pos (by omega), decide_eq_false (fun h => hi ((cnt_down (by omega)).1 h))]
theorem rints_loop {a b s m : Int} (ha : I64 a) (hb : I64 b) (hs : I64 s) (h0 : s ≠ 0) (hm : m ≤ 1000) : ∀ d i : Nat, (i : Int) + d = m → (i : Int) ≤ cntS a b s → I64 (a + i * s) →
    Ev (fun k => computusref21_Ints.l0 k b s m (ints a s i) (a + i * s)) (if cntS a b s > m then ([], 14) else (ints a s (cntS a b s).toNat, 0)) := by
  intro d
  induction d with
  | zero =>
    intro i hi hc hx
    by_cases g : (i : Int) < cntS a b s
    · refine Ev.step (fun k => rints_in k h0 g _) (Ev.succ ?_)
      simp only [computusref21_Ints.j2, if_true, ints_length]
      rw [if_pos (show cntS a b s > m by omega)]
      exact Ev.pos (by omega) (Ev.now _)
    · refine Ev.step (fun k => rints_out k h0 g _) (Ev.succ ?_)
      simp only [computusref21_Ints.j2, Bool.false_eq_true, if_false]
      rw [if_neg (show ¬ cntS a b s > m by omega), show (cntS a b s).toNat = i by omega]
      exact Ev.now _
  | succ d ih =>
    intro i hi hc hx
    by_cases g : (i : Int) < cntS a b s
    · refine Ev.step (fun k => rints_in k h0 g _) (Ev.succ ?_)
      simp only [computusref21_Ints.j2, if_true, ints_length]
      refine Ev.neg (by omega) (Ev.pos (by omega) ?_)
      simp only [Option.bind_some]
      have hn : a + i * s + s = a + ((i + 1 : Nat) : Int) * s := by
        rw [Int.natCast_add, Int.add_mul]; omega
      refine Ev.bind (radd_ev _ _ hx hs) ?_
      rw [← ints_succ, hn]
      by_cases q : I64 (a + ((i + 1 : Nat) : Int) * s)
      · rw [out_in q]
        exact Ev.pos rfl (ih (i + 1) (by omega) (by omega) q)
      · rw [out_no q]
        refine Ev.neg (by decide) ?_
        have hc2 : cntS a b s = ((i + 1 : Nat) : Int) := by
          rcases Int.lt_or_le ((i + 1 : Nat) : Int) (cntS a b s) with hl | hl
          · exact absurd (ints_in ha hb h0 hl) q
          · omega
        rw [if_neg (by omega), hc2]
        exact Ev.now _
    · refine Ev.step (fun k => rints_out k h0 g _) (Ev.succ ?_)
      simp only [computusref21_Ints.j2, Bool.false_eq_true, if_false]
      rw [if_neg (show ¬ cntS a b s > m by omega), show (cntS a b s).toNat = i by omega]
      exact Ev.now _
theorem rints_ev {a b s m : Int} (ha : I64 a) (hb : I64 b) (hs : I64 s) : Ev (fun k => computusref21_Ints.f k a b s m) (intsR a b s m) := by
  unfold computusref21_Ints.f intsR
  by_cases h : m < 0
  · refine Ev.pos h (Ev.at1 fun k => ?_)
    simp only [computusref21_Ints.j0, if_true]
    rw [if_pos (.inl h)]
  · refine Ev.neg h ?_
    by_cases h2 : m > 1000
    · rw [decide_eq_true h2]
      refine Ev.at1 fun k => ?_
      simp only [computusref21_Ints.j0, if_true]
      rw [if_pos (.inr h2)]
    · rw [decide_eq_false h2, if_neg (by omega)]
      refine Ev.succ ?_
      simp only [computusref21_Ints.j0, Bool.false_eq_true, if_false]
      by_cases z : s = 0
      · rw [if_pos z]; exact Ev.pos z (Ev.now _)
      · rw [if_neg z]
        refine Ev.neg z ?_
        have := rints_loop ha hb hs z (m := m) (by omega) m.toNat 0 (by omega) (by have := cntS_nonneg a b s z; omega) (by simpa using ha)
        simpa [ints] using this
theorem same_loop {l : List Int} (hl : l.length ≤ 1000) : ∀ d i : Nat, i + d = l.length → Ev (fun k => computuslaw21_same.l0 k l l i) true := by
  intro d
  induction d with
  | zero =>
    intro i hi
    refine Ev.at1 fun k => ?_
    simp only [computuslaw21_same.l0]
    rw [if_neg (by omega)]
  | succ d ih =>
    intro i hi
    refine Ev.step (f := fun k => computuslaw21_same.l0 k l l ((i + 1 : Nat) : Int)) (fun k => ?_) (ih (i + 1) (by omega))
    simp only [computuslaw21_same.l0]
    rw [if_pos (by omega), if_pos (by omega), if_pos (by omega), if_pos trivial, w64 (by omega) (by omega)]
    rfl
theorem same_ev {l : List Int} (hl : l.length ≤ 1000) : Ev (fun k => computuslaw21_same.f k l l) true := by
  unfold computuslaw21_same.f
  refine Ev.pos rfl ?_
  exact same_loop hl l.length 0 (by omega)
end Go.Proofs.Yteceeoaabmbckaa.Civ
