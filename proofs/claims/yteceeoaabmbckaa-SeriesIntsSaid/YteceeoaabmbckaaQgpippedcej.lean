/- What the reference's sums, products and quotients of wide numbers come to. -/
import Derived.Test.YteceeoaabmbckaaQgbpkefpolb
import Derived.Test.YteceeoaabmbckaaQdboclfmcoc
import Derived.Test.YteceeoaabmbckaaQlnmfplnpif
import Derived.Test.YteceeoaabmbckaaQnfimnniaco
import Derived.Test.YteceeoaabmbckaaQgccnpfopnl
import Derived.Test.YteceeoaabmbckaaQddpbnagbok
import Derived.Test.YteceeoaabmbckaaQloiomfigje
import Derived.Test.YteceeoaabmbckaaQcejcjgmolp
namespace Go.Proofs.Yteceeoaabmbckaa.Civ
set_option linter.unusedVariables false
set_option linter.unusedSimpArgs false
open Go.RowKit Go.Proofs.YteceeoaabmbckaaW.PrintWords Go.Proofs.YteceeoaabmbckaaW.PrintLast Go.Proofs.YteceeoaabmbckaaW.PrintMore Go.Proofs.Yteceeoaabmbckaa.P
/-- A wide number's sign and parts. -/
def ng (x : Int) : Bool := decide (x < 0)
def dg (x : Int) : List Int := dig (ab x)
theorem ng_true {x : Int} (h : x < 0) : ng x = true := decide_eq_true h
theorem ng_false {x : Int} (h : ¬ x < 0) : ng x = false := decide_eq_false h
def Wide (x : Int) : Prop := -6277101735386680763835789423207666416102355444464034512896 < x ∧ x < 6277101735386680763835789423207666416102355444464034512896
theorem ab_wide {x : Int} (h : Wide x) : 0 ≤ ab x ∧ ab x < 6277101735386680763835789423207666416102355444464034512896 := by unfold Wide at h; unfold ab; split <;> omega
theorem ab_zero {x : Int} : ab x = 0 ↔ x = 0 := by unfold ab; split <;> omega
theorem wide_i64 {x : Int} (h : I64 x) : Wide x := by unfold I64 at h; unfold Wide; omega
theorem of_list (u v : Int) (h0 : 0 ≤ u) (h1 : u ≤ 18446744073709551615) : ((List.replicate 6 0).set (0 : Int).toNat (u % 4294967296)).set (1 : Int).toNat (u / 4294967296) = dig u := by
  show [u % 4294967296, u / 4294967296, 0, 0, 0, 0] = dig u
  rw [dig_of (a := u) (a0 := u % 4294967296) (a1 := u / 4294967296) (a2 := 0) (a3 := 0) (a4 := 0) (a5 := 0) (by omega) (by omega)]
theorem of_eq (a : Int) (h : I64 a) : computusref01_Of.f a = some (ng a, dg a) := by
  have h' := h
  unfold I64 at h'
  unfold computusref01_Of.f
  by_cases g : a < 0
  · have e : IntKind.u64.wrap (-IntKind.u64.wrap a) = -a := by rw [u64m, u64m]; omega
    simp only [if_pos g, if_pos (show (6 : Int) ≤ 35184372088832 by omega), Option.bind_some, e, List.length_replicate]
    rw [and32 (by omega) (by omega), if_pos (by decide), if_pos (by decide), of_list (-a) 0 (by omega) (by omega)]
    unfold dg; rw [ab_neg g, ng_true g]; rfl
  · have e : IntKind.u64.wrap a = a := by rw [u64m]; omega
    simp only [if_neg g, if_pos (show (6 : Int) ≤ 35184372088832 by omega), Option.bind_some, e, List.length_replicate]
    rw [and32 (by omega) (by omega), if_pos (by decide), if_pos (by decide), of_list a 0 (by omega) (by omega)]
    unfold dg; rw [ab_pos (by omega), ng_false g]; rfl
theorem plus_ev {x y : Int} (hx : Wide x) (hy : Wide y) (hs : Wide (x + y)) : Ev (fun k => computusref01_Plus.f k (ng x) (dg x) (ng y) (dg y)) (ng (x + y), dg (x + y)) := by
  have bx := ab_wide hx
  have by_ := ab_wide hy
  have bs := ab_wide hs
  unfold computusref01_Plus.f
  have cmpE := cmp_ev bx.1 bx.2 by_.1 by_.2
  by_cases g : ng x = ng y
  · simp only [beq_iff_eq, if_pos g]
    have e1 : ab x + ab y = ab (x + y) := by
      unfold ng at g
      have := decide_eq_decide.1 g
      unfold ab; split <;> split <;> split <;> omega
    have e2 : ng x = ng (x + y) := by
      unfold ng at g ⊢
      have := decide_eq_decide.1 g
      apply decide_eq_decide.2; omega
    refine Ev.bind (add_ev bx.1 by_.1 (by omega)) ?_
    rw [e1, e2]
    exact Ev.now _
  · simp only [beq_iff_eq, if_neg g]
    have g' : ¬ (x < 0 ↔ y < 0) := fun f => g (by unfold ng; exact decide_eq_decide.2 f)
    refine Ev.bind cmpE ?_
    by_cases hc : ab y ≤ ab x
    · have e1 : ab x - ab y = ab (x + y) := by revert hc; unfold ab; split <;> split <;> split <;> omega
      have c0 : sgn (ab x) (ab y) ≥ 0 := by unfold sgn; split <;> omega
      simp only [if_pos c0]
      by_cases hn : x < 0
      · simp only [ng_true hn, if_true]
        refine Ev.bind cmpE (Ev.bind (less_ev bx.2 by_.1 hc) ?_)
        have : decide (sgn (ab x) (ab y) > 0) = ng (x + y) := by
          unfold ng
          apply decide_eq_decide.2
          unfold sgn
          revert hc; unfold ab; rw [if_pos hn, if_neg (by omega)]
          intro hc
          rw [if_neg (by omega)]
          split <;> omega
        rw [this, e1]
        exact Ev.now _
      · simp only [ng_false hn, Bool.false_eq_true, if_false]
        refine Ev.bind (less_ev bx.2 by_.1 hc) ?_
        have : ¬ x + y < 0 := by revert hc; unfold ab; rw [if_neg hn, if_pos (by omega)]; omega
        rw [e1, ng_false this]
        exact Ev.now _
    · have e1 : ab y - ab x = ab (x + y) := by revert hc; unfold ab; split <;> split <;> split <;> omega
      have c0 : ¬ sgn (ab x) (ab y) ≥ 0 := by unfold sgn; rw [if_pos (by omega)]; omega
      simp only [if_neg c0]
      refine Ev.bind (less_ev by_.2 bx.1 (by omega)) ?_
      have : ng y = ng (x + y) := by
        unfold ng
        apply decide_eq_decide.2
        revert hc; unfold ab; split <;> split <;> omega
      rw [e1, this]
      exact Ev.now _
theorem small_step (k : Nat) {n : Bool} {x : List Int} {i v : Int} (h0 : 2 ≤ i) (h6 : i < 6) (hl : x.length = 6) (hv : rd x i = v) :
    computusref01_Small.l0 (k + 1) i n x = if v = 0 then computusref01_Small.l0 k (i + 1) n x else some (0, 10) := by
  simp only [computusref01_Small.l0]
  rw [if_pos h6, if_pos (by omega), hl, if_pos (by omega), hv, w64 (by omega) (by omega)]
theorem small_end (k : Nat) (x u v : Int) (hu : 0 ≤ u ∧ u < 4294967296) (hv : 0 ≤ v ∧ v < 4294967296) (e : ab x = u + 4294967296 * v) (l : List Int) (hl : l.length = 6) (h0 : rd l 0 = u) (h1 : rd l 1 = v) :
    computusref01_Small.l0 (k + 2) 6 (ng x) l = some (out x) := by
  have eo : Go.bits .or .u64 (IntKind.u64.wrap (v * 4294967296)) u = ab x := by
    rw [u64w (by omega) (by omega), orj 32 (by omega) (by omega) (by omega) (by omega) hu.1 (by omega)]; omega
  simp only [computusref01_Small.l0]
  rw [if_neg (by omega), hl, if_pos (by decide), if_pos (by decide), h0, h1, eo]
  have hb : 0 ≤ ab x ∧ ab x ≤ 18446744073709551615 := by omega
  clear eo e h0 h1 hl hu hv
  by_cases g : x < 0
  · rw [ng_true g, if_pos rfl]
    rw [ab_neg g] at hb ⊢
    by_cases q : -x ≤ 9223372036854775808
    · rw [decide_eq_true q, out_in (by unfold I64; omega)]
      simp only [computusref01_Small.j1, if_true]
      rw [u64m]; congr 2; unfold wrap64; omega
    · rw [decide_eq_false q, out_no (by unfold I64; omega)]
      simp only [computusref01_Small.j1]
      rfl
  · rw [ng_false g]
    rw [ab_pos (by omega)] at hb ⊢
    simp only [Bool.false_eq_true, if_false, computusref01_Small.j1]
    by_cases q : x ≥ 9223372036854775808
    · rw [if_pos q, out_no (by unfold I64; omega)]
    · rw [if_neg q, out_in (by unfold I64; omega), w64 (by omega) (by omega)]
theorem small_ev {x : Int} (h : Wide x) : Ev (fun k => computusref01_Small.f k (ng x) (dg x)) (out x) := by
  have hb := ab_wide h
  obtain ⟨a0, a1, a2, a3, a4, a5, ea, ⟨A0, A1, A2, A3, A4, A5⟩, va⟩ := dig_form hb.1 hb.2
  refine Ev.of (computusref01_Small.mono (ng x) (dg x)) (k := 6) ?_
  unfold computusref01_Small.f dg
  rw [ea]
  have no : 18446744073709551616 ≤ ab x → out x = (0, 10) := fun g => out_no (by unfold ab at g; unfold I64; split at g <;> omega)
  rw [small_step 5 (i := 2) (v := a2) (by omega) (by omega) rfl rfl]
  by_cases g2 : a2 = 0
  · rw [if_pos g2, small_step 4 (i := 2 + 1) (v := a3) (by omega) (by omega) rfl rfl]
    by_cases g3 : a3 = 0
    · rw [if_pos g3, small_step 3 (i := 2 + 1 + 1) (v := a4) (by omega) (by omega) rfl rfl]
      by_cases g4 : a4 = 0
      · rw [if_pos g4, small_step 2 (i := 2 + 1 + 1 + 1) (v := a5) (by omega) (by omega) rfl rfl]
        by_cases g5 : a5 = 0
        · rw [if_pos g5]
          exact small_end 0 x a0 a1 A0 A1 (by rw [va, g2, g3, g4, g5]; omega) _ rfl rfl rfl
        · rw [if_neg g5, no (by rw [va, g2, g3, g4]; omega)]
      · rw [if_neg g4, no (by rw [va, g2, g3]; omega)]
    · rw [if_neg g3, no (by rw [va, g2]; omega)]
  · rw [if_neg g2, no (by rw [va]; omega)]
end Go.Proofs.Yteceeoaabmbckaa.Civ
