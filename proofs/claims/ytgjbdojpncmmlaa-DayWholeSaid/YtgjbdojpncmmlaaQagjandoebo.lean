/- What the reference's sums, products and quotients of wide numbers come to. -/
import Derived.Test.YtgjbdojpncmmlaaQkjbhenggpj
import Derived.Test.YtgjbdojpncmmlaaQbphhhpgenm
import Derived.Test.YtgjbdojpncmmlaaQeblellkajb
import Derived.Test.YtgjbdojpncmmlaaQkegnhodiek
import Derived.Test.YtgjbdojpncmmlaaQbbpjcjfchn
import Derived.Test.YtgjbdojpncmmlaaQiggofddhfp
import Derived.Test.YtgjbdojpncmmlaaQihcbdeghmi
import Derived.Test.YtgjbdojpncmmlaaQdbmconcjmc
import Derived.Test.YtgjbdojpncmmlaaQajhbgdeegc
import Derived.Test.YtgjbdojpncmmlaaQlahlaofhdp
import Derived.Test.YtgjbdojpncmmlaaQgfgncnndia
namespace Go.Proofs.Ytgjbdojpncmmlaa.Civ
set_option linter.unusedVariables false
set_option linter.unusedSimpArgs false
open Go.RowKit Go.Proofs.YtgjbdojpncmmlaaW.PrintWords Go.Proofs.YtgjbdojpncmmlaaW.PrintLast Go.Proofs.YtgjbdojpncmmlaaW.PrintMore Go.Proofs.Ytgjbdojpncmmlaa.P
/-- A wide number's sign and parts. -/
def ng (x : Int) : Bool := decide (x < 0)
def dg (x : Int) : List Int := dig (ab x)
theorem ng_true {x : Int} (h : x < 0) : ng x = true := decide_eq_true h
theorem ng_false {x : Int} (h : ¬ x < 0) : ng x = false := decide_eq_false h
def Wide (x : Int) : Prop := -6277101735386680763835789423207666416102355444464034512896 < x ∧ x < 6277101735386680763835789423207666416102355444464034512896
theorem ab_wide {x : Int} (h : Wide x) : 0 ≤ ab x ∧ ab x < 6277101735386680763835789423207666416102355444464034512896 := by unfold Wide at h; unfold ab; split <;> omega
theorem ab_zero {x : Int} : ab x = 0 ↔ x = 0 := by unfold ab; split <;> omega
theorem wide_i64 {x : Int} (h : I64 x) : Wide x := by unfold I64 at h; unfold Wide; omega
theorem of_list (u v : Int) (h0 : 0 ≤ u) (h1 : u ≤ 18446744073709551615) : ((List.replicate 6 0).set (0 : Int).toNat (u % 4294967296)).set (1 : Int).toNat (u / 4294967296) = dig u := by
  show [u % 4294967296, u / 4294967296, 0, 0, 0, 0] = dig u
  rw [dig_of (a := u) (a0 := u % 4294967296) (a1 := u / 4294967296) (a2 := 0) (a3 := 0) (a4 := 0) (a5 := 0) (by omega) (by omega)]
theorem of_eq (a : Int) (h : I64 a) : computusref01_Of.f a = some (ng a, dg a) := by
  have h' := h
  unfold I64 at h'
  unfold computusref01_Of.f
  by_cases g : a < 0
  · have e : IntKind.u64.wrap (-IntKind.u64.wrap a) = -a := by rw [u64m, u64m]; omega
    simp only [if_pos g, if_pos (show (6 : Int) ≤ 35184372088832 by omega), Option.bind_some, e, List.length_replicate]
    rw [and32 (by omega) (by omega), if_pos (by decide), if_pos (by decide), of_list (-a) 0 (by omega) (by omega)]
    unfold dg; rw [ab_neg g, ng_true g]; rfl
  · have e : IntKind.u64.wrap a = a := by rw [u64m]; omega
    simp only [if_neg g, if_pos (show (6 : Int) ≤ 35184372088832 by omega), Option.bind_some, e, List.length_replicate]
    rw [and32 (by omega) (by omega), if_pos (by decide), if_pos (by decide), of_list a 0 (by omega) (by omega)]
    unfold dg; rw [ab_pos (by omega), ng_false g]; rfl
theorem minus_ev {x : Int} (h : Wide x) : Ev (fun k => computusref01_Minus.f k (ng x) (dg x)) (ng (-x), dg (-x)) := by
  have hb := ab_wide h
  have e : dg (-x) = dg x := by unfold dg ab; congr 1; split <;> split <;> omega
  unfold computusref01_Minus.f
  rw [e]
  by_cases g : x < 0
  · rw [ng_true g, ng_false (by omega)]
    exact Ev.now _
  · rw [ng_false g]
    simp only [Bool.false_eq_true, if_false]
    refine Ev.bind (zero_ev hb.1 hb.2) ?_
    have : (!decide (ab x = 0)) = ng (-x) := by
      by_cases z : x = 0
      · subst z; rfl
      · rw [decide_eq_false (fun f => z (ab_zero.1 f)), ng_true (by omega)]; rfl
    rw [this]; exact Ev.now _
theorem plus_ev {x y : Int} (hx : Wide x) (hy : Wide y) (hs : Wide (x + y)) : Ev (fun k => computusref01_Plus.f k (ng x) (dg x) (ng y) (dg y)) (ng (x + y), dg (x + y)) := by
  have bx := ab_wide hx
  have by_ := ab_wide hy
  have bs := ab_wide hs
  unfold computusref01_Plus.f
  have cmpE := cmp_ev bx.1 bx.2 by_.1 by_.2
  by_cases g : ng x = ng y
  · simp only [beq_iff_eq, if_pos g]
    have e1 : ab x + ab y = ab (x + y) := by
      unfold ng at g
      have := decide_eq_decide.1 g
      unfold ab; split <;> split <;> split <;> omega
    have e2 : ng x = ng (x + y) := by
      unfold ng at g ⊢
      have := decide_eq_decide.1 g
      apply decide_eq_decide.2; omega
    refine Ev.bind (add_ev bx.1 by_.1 (by omega)) ?_
    rw [e1, e2]
    exact Ev.now _
  · simp only [beq_iff_eq, if_neg g]
    have g' : ¬ (x < 0 ↔ y < 0) := fun f => g (by unfold ng; exact decide_eq_decide.2 f)
    refine Ev.bind cmpE ?_
    by_cases hc : ab y ≤ ab x
    · have e1 : ab x - ab y = ab (x + y) := by revert hc; unfold ab; split <;> split <;> split <;> omega
      have c0 : sgn (ab x) (ab y) ≥ 0 := by unfold sgn; split <;> omega
      simp only [if_pos c0]
      by_cases hn : x < 0
      · simp only [ng_true hn, if_true]
        refine Ev.bind cmpE (Ev.bind (less_ev bx.2 by_.1 hc) ?_)
        have : decide (sgn (ab x) (ab y) > 0) = ng (x + y) := by
          unfold ng
          apply decide_eq_decide.2
          unfold sgn
          revert hc; unfold ab; rw [if_pos hn, if_neg (by omega)]
          intro hc
          rw [if_neg (by omega)]
          split <;> omega
        rw [this, e1]
        exact Ev.now _
      · simp only [ng_false hn, Bool.false_eq_true, if_false]
        refine Ev.bind (less_ev bx.2 by_.1 hc) ?_
        have : ¬ x + y < 0 := by revert hc; unfold ab; rw [if_neg hn, if_pos (by omega)]; omega
        rw [e1, ng_false this]
        exact Ev.now _
    · have e1 : ab y - ab x = ab (x + y) := by revert hc; unfold ab; split <;> split <;> split <;> omega
      have c0 : ¬ sgn (ab x) (ab y) ≥ 0 := by unfold sgn; rw [if_pos (by omega)]; omega
      simp only [if_neg c0]
      refine Ev.bind (less_ev by_.2 bx.1 (by omega)) ?_
      have : ng y = ng (x + y) := by
        unfold ng
        apply decide_eq_decide.2
        revert hc; unfold ab; split <;> split <;> omega
      rw [e1, this]
      exact Ev.now _
theorem small_step (k : Nat) {n : Bool} {x : List Int} {i v : Int} (h0 : 2 ≤ i) (h6 : i < 6) (hl : x.length = 6) (hv : rd x i = v) :
    computusref01_Small.l0 (k + 1) i n x = if v = 0 then computusref01_Small.l0 k (i + 1) n x else some (0, 10) := by
  simp only [computusref01_Small.l0]
  rw [if_pos h6, if_pos (by omega), hl, if_pos (by omega), hv, w64 (by omega) (by omega)]
theorem small_end (k : Nat) (x u v : Int) (hu : 0 ≤ u ∧ u < 4294967296) (hv : 0 ≤ v ∧ v < 4294967296) (e : ab x = u + 4294967296 * v) (l : List Int) (hl : l.length = 6) (h0 : rd l 0 = u) (h1 : rd l 1 = v) :
    computusref01_Small.l0 (k + 2) 6 (ng x) l = some (out x) := by
  have eo : Go.bits .or .u64 (IntKind.u64.wrap (v * 4294967296)) u = ab x := by
    rw [u64w (by omega) (by omega), orj 32 (by omega) (by omega) (by omega) (by omega) hu.1 (by omega)]; omega
  simp only [computusref01_Small.l0]
  rw [if_neg (by omega), hl, if_pos (by decide), if_pos (by decide), h0, h1, eo]
  have hb : 0 ≤ ab x ∧ ab x ≤ 18446744073709551615 := by omega
  clear eo e h0 h1 hl hu hv
  by_cases g : x < 0
  · rw [ng_true g, if_pos rfl]
    rw [ab_neg g] at hb ⊢
    by_cases q : -x ≤ 9223372036854775808
    · rw [decide_eq_true q, out_in (by unfold I64; omega)]
      simp only [computusref01_Small.j1, if_true]
      rw [u64m]; congr 2; unfold wrap64; omega
    · rw [decide_eq_false q, out_no (by unfold I64; omega)]
      simp only [computusref01_Small.j1]
      rfl
  · rw [ng_false g]
    rw [ab_pos (by omega)] at hb ⊢
    simp only [Bool.false_eq_true, if_false, computusref01_Small.j1]
    by_cases q : x ≥ 9223372036854775808
    · rw [if_pos q, out_no (by unfold I64; omega)]
    · rw [if_neg q, out_in (by unfold I64; omega), w64 (by omega) (by omega)]
theorem small_ev {x : Int} (h : Wide x) : Ev (fun k => computusref01_Small.f k (ng x) (dg x)) (out x) := by
  have hb := ab_wide h
  obtain ⟨a0, a1, a2, a3, a4, a5, ea, ⟨A0, A1, A2, A3, A4, A5⟩, va⟩ := dig_form hb.1 hb.2
  refine Ev.of (computusref01_Small.mono (ng x) (dg x)) (k := 6) ?_
  unfold computusref01_Small.f dg
  rw [ea]
  have no : 18446744073709551616 ≤ ab x → out x = (0, 10) := fun g => out_no (by unfold ab at g; unfold I64; split at g <;> omega)
  rw [small_step 5 (i := 2) (v := a2) (by omega) (by omega) rfl rfl]
  by_cases g2 : a2 = 0
  · rw [if_pos g2, small_step 4 (i := 2 + 1) (v := a3) (by omega) (by omega) rfl rfl]
    by_cases g3 : a3 = 0
    · rw [if_pos g3, small_step 3 (i := 2 + 1 + 1) (v := a4) (by omega) (by omega) rfl rfl]
      by_cases g4 : a4 = 0
      · rw [if_pos g4, small_step 2 (i := 2 + 1 + 1 + 1) (v := a5) (by omega) (by omega) rfl rfl]
        by_cases g5 : a5 = 0
        · rw [if_pos g5]
          exact small_end 0 x a0 a1 A0 A1 (by rw [va, g2, g3, g4, g5]; omega) _ rfl rfl rfl
        · rw [if_neg g5, no (by rw [va, g2, g3, g4]; omega)]
      · rw [if_neg g4, no (by rw [va, g2, g3]; omega)]
    · rw [if_neg g3, no (by rw [va, g2]; omega)]
  · rw [if_neg g2, no (by rw [va]; omega)]
theorem row_next (k : Nat) {x5 row L1 L2 : List Int} {s1 s2 : Bool} {c i j u v : Int} (hi : 0 ≤ i) (hj : 0 ≤ j) (hi2 : i < 2) (hj3 : j < 3) (l1 : L1.length = 6) (l2 : L2.length = 6) (lr : row.length = 6) (hc : 0 ≤ c ∧ c < 4294967296)
    (hu : rd L1 i = u) (hv : rd L2 j = v) (ub : 0 ≤ u ∧ u < 4294967296) (vb : 0 ≤ v ∧ v < 4294967296) :
    ∃ d c', computusref01_Times.l1 (k + 1) x5 i row c j s1 L1 s2 L2 = computusref01_Times.l1 k x5 i (row.set (i + j).toNat d) c' (j + 1) s1 L1 s2 L2 ∧ (0 ≤ d ∧ d < 4294967296) ∧ (0 ≤ c' ∧ c' < 4294967296) ∧ c + u * v = d + 4294967296 * c' := by
  have hp := mul_bd ub.1 (show u ≤ 4294967295 by omega) vb.1 (show v ≤ 4294967295 by omega)
  refine ⟨(c + u * v) % 4294967296, (c + u * v) / 4294967296, ?_, part_bd _, by omega, part_eq _⟩
  simp only [computusref01_Times.l1]
  rw [w64 (x := i + j) (by omega) (by omega), if_pos hj3, if_pos hi, l1, if_pos (by omega), if_pos hj, l2, if_pos (by omega), if_pos (by omega), lr, if_pos (by omega), hu, hv, u64w (x := u * v) (by omega) (by omega), u64w (x := c + u * v) (by omega) (by omega), and32 (by omega) (by omega), w64 (by omega) (by omega)]
theorem row_end (x5 : List Int) (i : Int) (r : List Int) (c : Int) (s1 : Bool) (L1 : List Int) (s2 : Bool) (L2 : List Int) {t : List Int} {res : Bool × List Int} (hi : 0 ≤ i ∧ i < 5) (ha : Ev (fun k => computusref01_add.f k x5 r) t)
    (h : Ev (fun k => computusref01_Times.l0 k t (i + 1) s1 L1 s2 L2) res) : Ev (fun k => computusref01_Times.l1 k x5 i r c 3 s1 L1 s2 L2) res := by
  refine Ev.step (f := fun k => (computusref01_add.f k x5 r).bind fun t => computusref01_Times.l0 k t (wrap64 (i + 1)) s1 L1 s2 L2) (fun k => ?_) (Ev.bind ha ?_)
  · simp only [computusref01_Times.l1]
    rw [if_neg (by omega)]
  · rw [w64 (by omega) (by omega)]; exact h
theorem two_parts {x : Int} (h0 : 0 ≤ x) (h1 : x ≤ 18446744073709551615) : ∃ x0 x1, dig x = [x0, x1, 0, 0, 0, 0] ∧ (0 ≤ x0 ∧ x0 < 4294967296) ∧ (0 ≤ x1 ∧ x1 < 4294967296) ∧ x = x0 + 4294967296 * x1 := by
  refine ⟨x % 4294967296, x / 4294967296, ?_, part_bd _, by omega, part_eq _⟩
  exact dig_of (by omega) (by omega)
theorem row0 {x0 y0 y1 d0 d1 d2 c1 c2 c3 : Int} (E0 : 0 + x0 * y0 = d0 + 4294967296 * c1) (E1 : c1 + x0 * y1 = d1 + 4294967296 * c2) (E2 : c2 + x0 * 0 = d2 + 4294967296 * c3) (C2 : 0 ≤ c2 ∧ c2 < 4294967296) (D2 : 0 ≤ d2 ∧ d2 < 4294967296) :
    x0 * (y0 + 4294967296 * y1) = d0 + 4294967296 * (d1 + 4294967296 * d2) := by
  have : x0 * (y0 + 4294967296 * y1) = x0 * y0 + 4294967296 * (x0 * y1) := by rw [Int.mul_add, Int.mul_left_comm]
  omega
theorem times_ev {x y : Int} (hx : -18446744073709551615 ≤ x ∧ x ≤ 18446744073709551615) (hy : -18446744073709551615 ≤ y ∧ y ≤ 18446744073709551615) :
    Ev (fun k => computusref01_Times.f k (ng x) (dg x) (ng y) (dg y)) (ng (x * y), dg (x * y)) := by
  have bx : 0 ≤ ab x ∧ ab x ≤ 18446744073709551615 := by unfold ab; split <;> omega
  have by_ : 0 ≤ ab y ∧ ab y ≤ 18446744073709551615 := by unfold ab; split <;> omega
  have hm := mul_sign x y
  have eab : ab (x * y) = ab x * ab y := by
    have hp := mul_bd bx.1 bx.2 by_.1 by_.2
    have neg_ab : ∀ P : Int, 0 ≤ P → ab (-P) = P := fun P h => by unfold ab; split <;> omega
    rw [← hm]; split
    · exact neg_ab _ hp.1
    · rw [ab_pos hp.1]
  have esg : (ng x != ng y) = true → ¬ ab x * ab y = 0 → x * y < 0 := by
    intro g z
    have hp := mul_bd bx.1 bx.2 by_.1 by_.2
    have g' : ((decide (x < 0)) != (decide (y < 0))) = true := g
    rw [← hm, if_pos g']; omega
  have esg2 : (ng x != ng y) = false → ¬ x * y < 0 := by
    intro g
    have hp := mul_bd bx.1 bx.2 by_.1 by_.2
    rw [← hm, if_neg (by unfold ng at g; rw [g]; simp)]; omega
  obtain ⟨x0, x1, ex, X0, X1, vx⟩ := two_parts bx.1 bx.2
  obtain ⟨y0, y1, ey, Y0, Y1, vy⟩ := two_parts by_.1 by_.2
  have hprod : ab x * ab y = x0 * ab y + 4294967296 * (x1 * ab y) := by
    conv => lhs; rw [vx]
    rw [Int.add_mul, Int.mul_assoc]
  have b0 := mul_bd X0.1 (show x0 ≤ 4294967295 by omega) by_.1 by_.2
  have b1 := mul_bd X1.1 (show x1 ≤ 4294967295 by omega) by_.1 by_.2
  have fin : Ev (fun k => computusref01_Times.l0 k (dig (ab x * ab y)) 2 (ng x) (dg x) (ng y) (dg y)) (ng (x * y), dg (x * y)) := by
    unfold dg
    rw [eab]
    by_cases g : (ng x != ng y) = true
    · refine Ev.step (f := fun k => (computusref01_zero.f k (dig (ab x * ab y))).bind fun t => some (!t, dig (ab x * ab y))) (fun k => ?_) (Ev.bind (zero_ev (by omega) (by omega)) ?_)
      · simp only [computusref01_Times.l0]
        rw [if_neg (by omega), if_pos g]
      · by_cases z : ab x * ab y = 0
        · have : x * y = 0 := by rw [← ab_zero, eab]; exact z
          rw [decide_eq_true z, this]; exact Ev.now _
        · rw [decide_eq_false z, ng_true (esg g z)]; exact Ev.now _
    · have g' : (ng x != ng y) = false := by simpa using g
      refine Ev.at1 fun k => ?_
      simp only [computusref01_Times.l0]
      rw [if_neg (by omega), if_neg g, ng_false (esg2 g')]
  have Z : (0 : Int) ≤ 0 ∧ (0 : Int) < 4294967296 := by decide
  have r1 : Ev (fun k => computusref01_Times.l1 k (dig (x0 * ab y)) 1 [0, 0, 0, 0, 0, 0] 0 0 (ng x) (dg x) (ng y) (dg y)) (ng (x * y), dg (x * y)) := by
    obtain ⟨K, hK⟩ : Ev (fun k => computusref01_Times.l1 k (dig (x0 * ab y)) 1 (dig (4294967296 * (x1 * ab y))) 0 3 (ng x) (dg x) (ng y) (dg y)) (ng (x * y), dg (x * y)) := by
      refine row_end _ _ _ _ _ _ _ _ (by omega) (add_ev b0.1 (by omega) (by omega)) ?_
      rw [← hprod]; exact fin
    refine ⟨K + 3, fun k hk => ?_⟩
    obtain ⟨m, rfl⟩ : ∃ m, k = m + 3 := ⟨k - 3, by omega⟩
    obtain ⟨d0, c1, e0, D0, C1, E0⟩ := row_next (m + 2) (x5 := dig (x0 * ab y)) (row := [0, 0, 0, 0, 0, 0]) (L1 := dg x) (L2 := dg y) (s1 := ng x) (s2 := ng y) (c := 0) (i := 1) (j := 0) (u := x1) (v := y0) (by decide) (by decide) (by decide) (by decide) rfl rfl rfl Z (by unfold dg; rw [ex]; rfl) (by unfold dg; rw [ey]; rfl) X1 Y0
    refine e0.trans ?_
    show computusref01_Times.l1 (m + 2) (dig (x0 * ab y)) 1 [0, d0, 0, 0, 0, 0] c1 1 (ng x) (dg x) (ng y) (dg y) = _
    obtain ⟨d1, c2, e1, D1, C2, E1⟩ := row_next (m + 1) (x5 := dig (x0 * ab y)) (row := [0, d0, 0, 0, 0, 0]) (L1 := dg x) (L2 := dg y) (s1 := ng x) (s2 := ng y) (c := c1) (i := 1) (j := 1) (u := x1) (v := y1) (by decide) (by decide) (by decide) (by decide) rfl rfl rfl C1 (by unfold dg; rw [ex]; rfl) (by unfold dg; rw [ey]; rfl) X1 Y1
    refine e1.trans ?_
    show computusref01_Times.l1 (m + 1) (dig (x0 * ab y)) 1 [0, d0, d1, 0, 0, 0] c2 2 (ng x) (dg x) (ng y) (dg y) = _
    obtain ⟨d2, c3, e2, D2, C3, E2⟩ := row_next m (x5 := dig (x0 * ab y)) (row := [0, d0, d1, 0, 0, 0]) (L1 := dg x) (L2 := dg y) (s1 := ng x) (s2 := ng y) (c := c2) (i := 1) (j := 2) (u := x1) (v := 0) (by decide) (by decide) (by decide) (by decide) rfl rfl rfl C2 (by unfold dg; rw [ex]; rfl) (by unfold dg; rw [ey]; rfl) X1 Z
    refine e2.trans ?_
    have hr := row0 E0 E1 E2 C2 D2
    rw [← vy] at hr
    have hc3 : c3 = 0 := by omega
    subst hc3
    show computusref01_Times.l1 m (dig (x0 * ab y)) 1 [0, d0, d1, d2, 0, 0] 0 3 (ng x) (dg x) (ng y) (dg y) = _
    rw [← dig_of (a := 4294967296 * (x1 * ab y)) (a0 := 0) (a1 := d0) (a2 := d1) (a3 := d2) (a4 := 0) (a5 := 0) ⟨Z, D0, D1, D2, Z, Z⟩ (by rw [hr]; omega)]
    exact hK m (by omega)
  have r0 : Ev (fun k => computusref01_Times.l1 k (dig 0) 0 [0, 0, 0, 0, 0, 0] 0 0 (ng x) (dg x) (ng y) (dg y)) (ng (x * y), dg (x * y)) := by
    obtain ⟨K, hK⟩ : Ev (fun k => computusref01_Times.l1 k (dig 0) 0 (dig (x0 * ab y)) 0 3 (ng x) (dg x) (ng y) (dg y)) (ng (x * y), dg (x * y)) := by
      refine row_end _ _ _ _ _ _ _ _ (by omega) (add_ev (by omega) b0.1 (by omega)) ?_
      rw [Int.zero_add]
      refine Ev.step (f := fun k => computusref01_Times.l1 k (dig (x0 * ab y)) 1 [0, 0, 0, 0, 0, 0] 0 0 (ng x) (dg x) (ng y) (dg y)) (fun k => ?_) r1
      simp only [computusref01_Times.l0]
      rw [if_pos (by omega), if_pos (by omega)]
      rfl
    refine ⟨K + 3, fun k hk => ?_⟩
    obtain ⟨m, rfl⟩ : ∃ m, k = m + 3 := ⟨k - 3, by omega⟩
    obtain ⟨d0, c1, e0, D0, C1, E0⟩ := row_next (m + 2) (x5 := dig 0) (row := [0, 0, 0, 0, 0, 0]) (L1 := dg x) (L2 := dg y) (s1 := ng x) (s2 := ng y) (c := 0) (i := 0) (j := 0) (u := x0) (v := y0) (by decide) (by decide) (by decide) (by decide) rfl rfl rfl Z (by unfold dg; rw [ex]; rfl) (by unfold dg; rw [ey]; rfl) X0 Y0
    refine e0.trans ?_
    show computusref01_Times.l1 (m + 2) (dig 0) 0 [d0, 0, 0, 0, 0, 0] c1 1 (ng x) (dg x) (ng y) (dg y) = _
    obtain ⟨d1, c2, e1, D1, C2, E1⟩ := row_next (m + 1) (x5 := dig 0) (row := [d0, 0, 0, 0, 0, 0]) (L1 := dg x) (L2 := dg y) (s1 := ng x) (s2 := ng y) (c := c1) (i := 0) (j := 1) (u := x0) (v := y1) (by decide) (by decide) (by decide) (by decide) rfl rfl rfl C1 (by unfold dg; rw [ex]; rfl) (by unfold dg; rw [ey]; rfl) X0 Y1
    refine e1.trans ?_
    show computusref01_Times.l1 (m + 1) (dig 0) 0 [d0, d1, 0, 0, 0, 0] c2 2 (ng x) (dg x) (ng y) (dg y) = _
    obtain ⟨d2, c3, e2, D2, C3, E2⟩ := row_next m (x5 := dig 0) (row := [d0, d1, 0, 0, 0, 0]) (L1 := dg x) (L2 := dg y) (s1 := ng x) (s2 := ng y) (c := c2) (i := 0) (j := 2) (u := x0) (v := 0) (by decide) (by decide) (by decide) (by decide) rfl rfl rfl C2 (by unfold dg; rw [ex]; rfl) (by unfold dg; rw [ey]; rfl) X0 Z
    refine e2.trans ?_
    have hr := row0 E0 E1 E2 C2 D2
    rw [← vy] at hr
    have hc3 : c3 = 0 := by omega
    subst hc3
    show computusref01_Times.l1 m (dig 0) 0 [d0, d1, d2, 0, 0, 0] 0 3 (ng x) (dg x) (ng y) (dg y) = _
    rw [← dig_of (a := x0 * ab y) (a0 := d0) (a1 := d1) (a2 := d2) (a3 := 0) (a4 := 0) (a5 := 0) ⟨D0, D1, D2, Z, Z, Z⟩ (by rw [hr]; omega)]
    exact hK m (by omega)
  unfold computusref01_Times.f
  refine Ev.pos (by decide) ?_
  refine Ev.step (f := fun k => computusref01_Times.l1 k (dig 0) 0 [0, 0, 0, 0, 0, 0] 0 0 (ng x) (dg x) (ng y) (dg y)) (fun k => ?_) r0
  simp only [computusref01_Times.l0]
  rw [if_pos (by omega), if_pos (by omega)]
  rfl
end Go.Proofs.Ytgjbdojpncmmlaa.Civ
