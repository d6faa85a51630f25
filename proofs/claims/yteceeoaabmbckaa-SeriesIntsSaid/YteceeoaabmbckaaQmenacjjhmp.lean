/- What the numbers of package series come to: how many there are, and which. -/
import Derived.Test.YteceeoaabmbckaaQgbpkefpolb
import Derived.Test.YteceeoaabmbckaaQdboclfmcoc
import Derived.Test.YteceeoaabmbckaaQnfimnniaco
import Derived.Test.YteceeoaabmbckaaQdecmicjbol
import Derived.Test.YteceeoaabmbckaaQlklffkjaej
namespace Go.Proofs.Yteceeoaabmbckaa.Civ
set_option linter.unusedVariables false
set_option linter.unusedSimpArgs false
open Go.RowKit Go.Proofs.YteceeoaabmbckaaW.PrintWords Go.Proofs.YteceeoaabmbckaaW.PrintLast Go.Proofs.YteceeoaabmbckaaW.PrintMore Go.Proofs.Yteceeoaabmbckaa.P
/-- How many numbers follow each other from a on up to b. -/
def cntS (a b s : Int) : Int := if s > 0 then (if a > b then 0 else (b - a) / s + 1) else (if b > a then 0 else (a - b) / -s + 1)
def cntR (a b s : Int) : Int × Int := if s = 0 then (0, 11) else if cntS a b s ≤ 18446744073709551615 then (cntS a b s, 0) else (0, 10)
theorem div_bd {x y : Int} (hx : 0 ≤ x) (hy : 0 < y) : 0 ≤ x / y ∧ x / y ≤ x := ⟨Int.ediv_nonneg hx (by omega), Int.ediv_le_self _ hx⟩
theorem add64_one {q : Int} (h0 : 0 ≤ q) : bits_Add64.f q 1 0 = some ((q + 1 + 0) % 18446744073709551616, (q + 1 + 0) / 18446744073709551616) := by
  unfold bits_Add64.f
  rw [if_pos h0, if_pos (by decide), if_pos (by decide), if_pos (by decide)]
theorem count_j0 (k : Nat) {a b by_ : Int} (ha : I64 a) (hb : I64 b) (h0 : 0 < by_) : series_Count.j0 (k + 1) a b by_ = some (if a > b then (0, 0) else if (b - a) / by_ + 1 ≤ 18446744073709551615 then ((b - a) / by_ + 1, 0) else (0, 10)) := by
  unfold I64 at ha hb
  simp only [series_Count.j0]
  by_cases h : a > b
  · rw [if_pos h, if_pos h]
  · have e1 : IntKind.u64.wrap (IntKind.u64.wrap b - IntKind.u64.wrap a) = b - a := by rw [u64m, u64m, u64m]; omega
    have d := div_bd (x := b - a) (by omega) h0
    rw [if_neg h, if_neg h, if_neg (by omega), e1, td_pos (by omega), u64w d.1 (by omega), add64_one d.1]
    simp only [Option.bind_some]
    by_cases g : (b - a) / by_ + 1 ≤ 18446744073709551615
    · rw [if_pos (by omega), if_pos g]
      congr 2; omega
    · rw [if_neg (by omega), if_neg g]
theorem cntS_up (a b : Int) {s : Int} (h : s > 0) : cntS a b s = if a > b then 0 else (b - a) / s + 1 := if_pos h
theorem cntS_down (a b : Int) {s : Int} (h : ¬ s > 0) : cntS a b s = if b > a then 0 else (a - b) / -s + 1 := if_neg h
theorem count_eq (k : Nat) {a b s : Int} (ha : I64 a) (hb : I64 b) (hs : I64 s) : series_Count.f (k + 1) a b s = some (cntR a b s) := by
  have hs' := hs
  unfold I64 at hs'
  unfold series_Count.f cntR
  by_cases h : s = 0
  · rw [if_pos h, if_pos h]
  · rw [if_neg h, if_neg h]
    by_cases g : s < 0
    · have e : IntKind.u64.wrap (-IntKind.u64.wrap s) = -s := by rw [u64m, u64m]; omega
      rw [if_pos g, e, count_j0 k hb ha (by omega), cntS_down a b (by omega)]
      by_cases q : b > a
      · rw [if_pos q, if_pos q]; rfl
      · rw [if_neg q, if_neg q]
    · have e : IntKind.u64.wrap s = s := by rw [u64m]; omega
      rw [if_neg g, e, count_j0 k ha hb (by omega), cntS_up a b (by omega)]
      by_cases q : a > b
      · rw [if_pos q, if_pos q]; rfl
      · rw [if_neg q, if_neg q]
/-- n numbers from a on. -/
def ints (a s : Int) (n : Nat) : List Int := (List.range n).map fun (i : Nat) => a + (i : Int) * s
theorem ints_length (a s : Int) (n : Nat) : (ints a s n).length = n := by simp [ints]
theorem ints_succ (a s : Int) (n : Nat) : ints a s (n + 1) = ints a s n ++ [a + n * s] := by simp [ints, List.range_succ]
theorem wrap_in (a x : Int) : wrap64 (a + wrap64 x) = wrap64 (a + x) := by unfold wrap64; omega
/-- A number that follows lies between both ends. -/
theorem ints_in {a b s : Int} (ha : I64 a) (hb : I64 b) (h0 : s ≠ 0) {i : Nat} (hi : (i : Int) < cntS a b s) : I64 (a + i * s) := by
  unfold I64 at *
  unfold cntS at hi
  by_cases g : s > 0
  · rw [if_pos g] at hi
    by_cases q : a > b
    · rw [if_pos q] at hi; omega
    · rw [if_neg q] at hi
      have e := Int.mul_ediv_add_emod (b - a) s
      have e0 := Int.emod_nonneg (b - a) h0
      have m : (i : Int) * s ≤ (b - a) / s * s := Int.mul_le_mul_of_nonneg_right (by omega) (by omega)
      have m0 : 0 ≤ (i : Int) * s := Int.mul_nonneg (by omega) (by omega)
      rw [Int.mul_comm s] at e
      omega
  · rw [if_neg g] at hi
    by_cases q : b > a
    · rw [if_pos q] at hi; omega
    · rw [if_neg q] at hi
      have e := Int.mul_ediv_add_emod (a - b) (-s)
      have e0 := Int.emod_nonneg (a - b) (b := -s) (by omega)
      have m : (i : Int) * -s ≤ (a - b) / -s * -s := Int.mul_le_mul_of_nonneg_right (by omega) (by omega)
      have m0 : 0 ≤ (i : Int) * -s := Int.mul_nonneg (by omega) (by omega)
      rw [Int.mul_comm (-s)] at e
      rw [Int.mul_neg] at m m0
      omega
theorem cntS_nonneg (a b s : Int) (h0 : s ≠ 0) : 0 ≤ cntS a b s := by
  unfold cntS
  by_cases g : s > 0
  · rw [if_pos g]
    by_cases q : a > b
    · rw [if_pos q]; omega
    · rw [if_neg q]; have := div_bd (x := b - a) (y := s) (by omega) g; omega
  · rw [if_neg g]
    by_cases q : b > a
    · rw [if_pos q]; omega
    · rw [if_neg q]; have := div_bd (x := a - b) (y := -s) (by omega) (by omega); omega
def intsR (a b s m : Int) : List Int × Int := if m < 0 ∨ m > 1000 then ([], 1) else if s = 0 then ([], 11) else if cntS a b s > m then ([], 14) else (ints a s (cntS a b s).toNat, 0)
theorem ints_loop {a s : Int} {n : Nat} (hn : n ≤ 1000) (hr : ∀ i : Nat, i < n → I64 (a + i * s)) : ∀ d i : Nat, i + d = n → Ev (fun k => series_Ints.l0 k a s (ints a s i) n i) (ints a s n, 0) := by
  intro d
  induction d with
  | zero =>
    intro i hi
    have : i = n := by omega
    subst this
    refine Ev.at1 fun k => ?_
    simp only [series_Ints.l0]
    rw [if_neg (by omega)]
  | succ d ih =>
    intro i hi
    refine Ev.step (f := fun k => series_Ints.l0 k a s (ints a s (i + 1)) n ((i + 1 : Nat) : Int)) (fun k => ?_) (ih (i + 1) (by omega))
    have hw : wrap64 (a + wrap64 ((i : Int) * s)) = a + i * s := by rw [wrap_in, w64_of (hr i (by omega))]
    simp only [series_Ints.l0]
    rw [if_pos (by omega), ints_length, if_pos (by omega), hw, w64 (by omega) (by omega), ints_succ]
    rfl
theorem ints_ev {a b s m : Int} (ha : I64 a) (hb : I64 b) (hs : I64 s) : Ev (fun k => series_Ints.f k a b s m) (intsR a b s m) := by
  unfold series_Ints.f intsR
  by_cases h : m < 0
  · refine Ev.pos h (Ev.at1 fun k => ?_)
    simp only [series_Ints.j0, if_true]
    rw [if_pos (.inl h)]
  · refine Ev.neg h ?_
    by_cases h2 : m > 1000
    · rw [decide_eq_true h2]
      refine Ev.at1 fun k => ?_
      simp only [series_Ints.j0, if_true]
      rw [if_pos (.inr h2)]
    · rw [decide_eq_false h2, if_neg (by omega)]
      refine Ev.succ ?_
      simp only [series_Ints.j0, Bool.false_eq_true, if_false]
      refine Ev.bind (Ev.at1 fun k => count_eq k ha hb hs) ?_
      unfold cntR
      by_cases z : s = 0
      · rw [if_pos z, if_pos z]
        exact Ev.pos rfl (Ev.now _)
      · have hc := cntS_nonneg a b s z
        rw [if_neg z, if_neg z]
        by_cases g : cntS a b s ≤ 18446744073709551615
        · rw [if_pos g]
          refine Ev.neg (by simp) (Ev.pos rfl ?_)
          have em : IntKind.u64.wrap m = m := by rw [u64m]; omega
          by_cases q : cntS a b s > m
          · exact Ev.pos (by rw [em]; exact q) (Ev.cast (Ev.now _) (if_pos q).symm)
          · refine Ev.neg (by rw [em]; exact q) (Ev.cast ?_ (if_neg q).symm)
            have hn : (cntS a b s).toNat ≤ 1000 := by omega
            have := ints_loop (a := a) (s := s) (n := (cntS a b s).toNat) hn (fun i hi => ints_in ha hb z (by omega)) (cntS a b s).toNat 0 (by omega)
            have e2 : wrap64 (cntS a b s) = ((cntS a b s).toNat : Int) := by rw [w64 (by omega) (by omega)]; omega
            simp only [e2]
            exact this
        · rw [if_neg g]
          refine Ev.neg (by simp) (Ev.neg (by simp) (Ev.cast (Ev.now _) (if_pos (show cntS a b s > m by omega)).symm))
end Go.Proofs.Yteceeoaabmbckaa.Civ
