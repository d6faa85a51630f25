-- Written by a program of the session (a print of the seat's translation, functions given by hand among it). Lean checks it.
import Derived.Test.YtgjbdojpncmmlaaQbjoegdnofm
namespace Go.Proofs.Ytgjbdojpncmmlaa.P
open Go.RowKit Go.Proofs.YtgjbdojpncmmlaaW.PrintWords Go.Proofs.YtgjbdojpncmmlaaW.PrintLast Go.Proofs.YtgjbdojpncmmlaaW.PrintMore
attribute [local go_sem] max2_int min2_int max_two min_two max_three min_three max_four min_four   -- for this text's walks alone
set_option linter.unusedVariables false
set_option linter.unusedSimpArgs false
mutual
def computusref01_Small.l0 : Nat → Int → Bool → List Int → Option (Int × Int)
  | 0, _, _, _ => none
  | k + 1, x4, x342000, x342001 => if x4 < 6 then (if 0 ≤ x4 then (if x4 < (x342001.length : Int) then (if (rd x342001 x4) = 0 then (computusref01_Small.l0 k (wrap64 (x4 + 1)) x342000 x342001) else (some (0, 10))) else (none)) else (none)) else (if 1 < (x342001.length : Int) then (if 0 < (x342001.length : Int) then (if x342000 = true then (computusref01_Small.j1 k (Go.bits .or .u64 (IntKind.u64.wrap ((rd x342001 1) * 4294967296)) (rd x342001 0)) (decide ((Go.bits .or .u64 (IntKind.u64.wrap ((rd x342001 1) * 4294967296)) (rd x342001 0)) ≤ 9223372036854775808)) x342000 x342001) else (computusref01_Small.j1 k (Go.bits .or .u64 (IntKind.u64.wrap ((rd x342001 1) * 4294967296)) (rd x342001 0)) false x342000 x342001)) else (none)) else (none))
def computusref01_Small.j1 : Nat → Int → Bool → Bool → List Int → Option (Int × Int)
  | 0, _, _, _, _ => none
  | k + 1, x5, x31, x342000, x342001 => if x31 = true then (some (wrap64 (IntKind.u64.wrap (-x5)), 0)) else (if x342000 = true then (some (0, 10)) else (if x5 ≥ 9223372036854775808 then (some (0, 10)) else (some (wrap64 (x5), 0))))
end
def computusref01_Small.f (k : Nat) (a0_0 : Bool) (l0_1 : List Int) : Option (Int × Int) := computusref01_Small.l0 k 2 a0_0 l0_1
theorem computusref01_Small.mono_l : ∀ k, (∀ y0 y1 y2, LeO (computusref01_Small.l0 k y0 y1 y2) (computusref01_Small.l0 (k + 1) y0 y1 y2)) ∧ (∀ y0 y1 y2 y3, LeO (computusref01_Small.j1 k y0 y1 y2 y3) (computusref01_Small.j1 (k + 1) y0 y1 y2 y3))
  | 0 => ⟨fun _ _ _ r h => by simp [computusref01_Small.l0] at h, fun _ _ _ _ r h => by simp [computusref01_Small.j1] at h⟩
  | k + 1 => by
    obtain ⟨ih0, ih1⟩ := computusref01_Small.mono_l k
    refine ⟨?_, ?_⟩
    · intro y0 y1 y2
      unfold computusref01_Small.l0
      repeat' first
      | (with_reducible exact ih0 _ _ _)
      | (with_reducible exact ih1 _ _ _ _)
      | (with_reducible exact LeO.refl _)
      | (with_reducible exact LeO.none _)
      | (with_reducible refine LeO.ite ?_ ?_)
      | (with_reducible refine LeO.bind ?_ (fun _ => ?_))
      | exact ih0 _ _ _
      | exact ih1 _ _ _ _
      | exact LeO.none _
      | refine LeO.ite ?_ ?_
      | refine LeO.bind ?_ (fun _ => ?_)
    · intro y0 y1 y2 y3
      unfold computusref01_Small.j1
      repeat' first
      | (with_reducible exact ih0 _ _ _)
      | (with_reducible exact ih1 _ _ _ _)
      | (with_reducible exact LeO.refl _)
      | (with_reducible exact LeO.none _)
      | (with_reducible refine LeO.ite ?_ ?_)
      | (with_reducible refine LeO.bind ?_ (fun _ => ?_))
      | exact ih0 _ _ _
      | exact ih1 _ _ _ _
      | exact LeO.none _
      | refine LeO.ite ?_ ?_
      | refine LeO.bind ?_ (fun _ => ?_)
theorem computusref01_Small.mono : ∀ a0 a1 k, LeO (computusref01_Small.f k a0 a1) (computusref01_Small.f (k + 1) a0 a1) := by
  intro a0 a1 k
  obtain ⟨ih0, ih1⟩ := computusref01_Small.mono_l k
  unfold computusref01_Small.f
  repeat' first
      | (with_reducible exact ih0 _ _ _)
      | (with_reducible exact ih1 _ _ _ _)
      | (with_reducible exact LeO.refl _)
      | (with_reducible exact LeO.none _)
      | (with_reducible refine LeO.ite ?_ ?_)
      | (with_reducible refine LeO.bind ?_ (fun _ => ?_))
      | exact ih0 _ _ _
      | exact ih1 _ _ _ _
      | exact LeO.none _
      | refine LeO.ite ?_ ?_
      | refine LeO.bind ?_ (fun _ => ?_)
set_option maxHeartbeats 8000000 in
set_option maxRecDepth 100000 in
theorem computusref01_Small.calls (k : Nat) (a0_0 : Bool) (A0_1 : Option Addr) (c0_1 : Nat) (l0_1 : List Int) (r1 : Int) (r2 : Int) (w : World) (hr0_1 : Kd.C (Kd.int .u64) w A0_1 l0_1.length l0_1) (hc0_1 : l0_1.length ≤ c0_1) (h : computusref01_Small.f k a0_0 l0_1 = some (r1, r2)) :
    Calls Try.prog 69 #[.agg #[.bool a0_0, .slice A0_1 l0_1.length c0_1]] w fun e w' => e = .returned (.tuple #[.int .i64 r1, .int .i64 r2]) ∧ Below w.heap.size w w' := by
  have hu70 := Try.underlying70
  have HR0_1 := Aside0.mk hr0_1
  have HC0_1 := Aside0.mk hc0_1
  clear hr0_1 hc0_1
  have HB := Aside0.mk (Below.refl w.heap.size w)
  have H : (computusref01_Small.l0 k 2 a0_0 l0_1) = some (r1, r2) := h
  clear h
  have H' := Aside0.mk H
  clear H
  go_enter Try.func69, Try.ntmps69
  go_wp2_with (first | ((with_reducible refine gate_dst (N := 1) rfl ?_); refine box_event ?hg (N := 1) ?hd (cs := #[.bool a0_0, .slice A0_1 l0_1.length c0_1]) (t := 70) ?hr ?_; (case hd => rfl); (case hg => rfl); (case hr => first | (go_simp; done) | (go_simp; rfl)); intro gb341 hg w2 hbox hb; have n0_ := Aside0.mk (kM (by repeat (first | (with_reducible first | exact HB.out | apply kG | apply kD | apply kF) | exact HB.out)) hb); have n1_ := Aside0.mk (hbox); have n2_ := Aside0.mk ((by rw [hg]; exact (kK (by repeat (first | (with_reducible first | exact HB.out | apply kG | apply kD | apply kF) | exact HB.out))) : w.heap.size ≤ gb341)); have n3_ := Aside0.mk ((by rw [hg]; exact (kK (by repeat (first | (with_reducible first | exact HB.out | apply kG | apply kD | apply kF) | exact HB.out))) : w.heap.size ≤ gb341)); clear HB; have HB := n0_; have BK341 := n1_; have GW341 := n2_; have GE341 := n3_; clear n0_ n1_ n2_ n3_; clear hb hbox hg))
  repeat (go_quiet (first | ((with_reducible refine gate_dst (N := 1) rfl ?_); refine box_event ?hg (N := 1) ?hd (cs := #[.bool a0_0, .slice A0_1 l0_1.length c0_1]) (t := 70) ?hr ?_; (case hd => rfl); (case hg => rfl); (case hr => first | (go_simp; done) | (go_simp; rfl)); intro gb341 hg w2 hbox hb; have n0_ := Aside0.mk (kM (by repeat (first | (with_reducible first | exact HB.out | apply kG | apply kD | apply kF) | exact HB.out)) hb); have n1_ := Aside0.mk (hbox); have n2_ := Aside0.mk ((by rw [hg]; exact (kK (by repeat (first | (with_reducible first | exact HB.out | apply kG | apply kD | apply kF) | exact HB.out))) : w.heap.size ≤ gb341)); have n3_ := Aside0.mk ((by rw [hg]; exact (kK (by repeat (first | (with_reducible first | exact HB.out | apply kG | apply kD | apply kF) | exact HB.out))) : w.heap.size ≤ gb341)); clear HB; have HB := n0_; have BK341 := n1_; have GW341 := n2_; have GE341 := n3_; clear n0_ n1_ n2_ n3_; clear hb hbox hg)); try go_wp2_with (first | ((with_reducible refine gate_dst (N := 1) rfl ?_); refine box_event ?hg (N := 1) ?hd (cs := #[.bool a0_0, .slice A0_1 l0_1.length c0_1]) (t := 70) ?hr ?_; (case hd => rfl); (case hg => rfl); (case hr => first | (go_simp; done) | (go_simp; rfl)); intro gb341 hg w2 hbox hb; have n0_ := Aside0.mk (kM (by repeat (first | (with_reducible first | exact HB.out | apply kG | apply kD | apply kF) | exact HB.out)) hb); have n1_ := Aside0.mk (hbox); have n2_ := Aside0.mk ((by rw [hg]; exact (kK (by repeat (first | (with_reducible first | exact HB.out | apply kG | apply kD | apply kF) | exact HB.out))) : w.heap.size ≤ gb341)); have n3_ := Aside0.mk ((by rw [hg]; exact (kK (by repeat (first | (with_reducible first | exact HB.out | apply kG | apply kD | apply kF) | exact HB.out))) : w.heap.size ≤ gb341)); clear HB; have HB := n0_; have BK341 := n1_; have GW341 := n2_; have GE341 := n3_; clear n0_ n1_ n2_ n3_; clear hb hbox hg)))
  go_loopg [4] k (fun kq v4 w' => ∃ (x4_1 : Int), v4 = .int .i64 x4_1 ∧ Aside0 (computusref01_Small.l0 kq x4_1 a0_0 l0_1 = some (r1, r2)) ∧ Aside0 (kq ≤ k) ∧ Aside0 (w'.heap[gb341]? = some (.cells #[.bool a0_0, (.slice A0_1 l0_1.length c0_1)] 70 (0, 0))) ∧ Aside0 (Below w.heap.size w w'))
  case atStart => exact ⟨(2), (by first | rfl | (simp; done) | (simp [*]; done)), H', ⟨Nat.le_refl _⟩, ⟨by (with_reducible repeat (first | refine kB ?_ _ | refine kE ?_ | refine kC ?_ _)); exact BK341.out⟩, ⟨by repeat (first | (with_reducible first | exact HB.out | apply kG | apply kD | apply kF | refine kA ?_ GE341.out) | exact HB.out)⟩⟩
  case round =>
    clear H'
    try clear p2
    obtain ⟨x4_1, rfl, HA, HK1, BK341, HB⟩ := hrel
    cases gk with
    | zero => exact absurd HA.out (by simp [computusref01_Small.l0])
    | succ k1 =>
      have H := HA.out
      clear HA
      simp only [computusref01_Small.l0] at H
      by_cases c3 : x4_1 < 6
      · rw [if_pos c3] at H
        have c3b0 : decide (x4_1 < 6) = true := decide_eq_true c3
        clear c3
        by_cases c4 : 0 ≤ x4_1
        · rw [if_pos c4] at H
          have c4b0 : decide (0 ≤ x4_1) = true := decide_eq_true c4
          clear c4
          by_cases c5 : x4_1 < (l0_1.length : Int)
          · rw [if_pos c5] at H
            have c5b0 : decide (x4_1 < (l0_1.length : Int)) = true := decide_eq_true c5
            clear c5
            by_cases c6 : (rd l0_1 x4_1) = 0
            · rw [if_pos c6] at H
              have c6b0 : ((rd l0_1 x4_1) == 0) = true := beq_iff_eq.mpr c6
              have c6b1 : ((rd l0_1 x4_1) != 0) = false := bne_eq_false_iff_eq.mpr c6
              clear c6
              have H' := Aside0.mk H
              clear H
              have hcz7_0 : wr.cell? ⟨gb341, 0, none⟩ = some (.bool a0_0) := (kH BK341.out 0).trans rfl
              have hcz7_1 : wr.cell? ⟨gb341, 1, none⟩ = some (.slice A0_1 l0_1.length c0_1) := (kH BK341.out 1).trans rfl
              have hfz7_0 := kJ BK341.out 0
              have hfz7_1 := kJ BK341.out 1
              have p342 : 0 ≤ (x4_1 : Int) := of_decide_eq_true (by first | (with_reducible assumption) | assumption)
              have q342 : x4_1 < (l0_1.length : Int) := of_decide_eq_true (by first | (with_reducible assumption) | assumption)
              obtain ⟨ad342, e342, hx342_0⟩ := Kd.at_int HR0_1.out x4_1 p342 q342
              cases e342
              replace hx342_0 := (HB.out.cell (World.block_lt_of_cell? w _ hx342_0)).trans hx342_0
              replace p342 := eq_true p342
              replace q342 := eq_true q342
              go_wp2
              repeat (go_quiet (fail); try go_wp2)
              go_roundg k1
              case measure => have := HK1.out; omega
              case rel => exact ⟨(wrap64 (x4_1 + 1)), (by first | rfl | (simp; done) | (simp [*]; done)), H', ⟨by have := HK1.out; omega⟩, ⟨by (with_reducible repeat (first | refine kB ?_ _ | refine kE ?_ | refine kC ?_ _)); exact BK341.out⟩, ⟨by repeat (first | (with_reducible first | exact HB.out | apply kG | apply kD | apply kF | refine kA ?_ GE341.out) | exact HB.out)⟩⟩
            · rw [if_neg c6] at H
              have c6b0 : ((rd l0_1 x4_1) == 0) = false := beq_eq_false_iff_ne.mpr c6
              have c6b1 : ((rd l0_1 x4_1) != 0) = true := bne_iff_ne.mpr c6
              simp only [Option.some.injEq, Prod.mk.injEq] at H
              obtain ⟨rfl, rfl⟩ := H
              have hcz8_0 : wr.cell? ⟨gb341, 0, none⟩ = some (.bool a0_0) := (kH BK341.out 0).trans rfl
              have hcz8_1 : wr.cell? ⟨gb341, 1, none⟩ = some (.slice A0_1 l0_1.length c0_1) := (kH BK341.out 1).trans rfl
              have hfz8_0 := kJ BK341.out 0
              have hfz8_1 := kJ BK341.out 1
              have p342 : 0 ≤ (x4_1 : Int) := of_decide_eq_true (by first | (with_reducible assumption) | assumption)
              have q342 : x4_1 < (l0_1.length : Int) := of_decide_eq_true (by first | (with_reducible assumption) | assumption)
              obtain ⟨ad342, e342, hx342_0⟩ := Kd.at_int HR0_1.out x4_1 p342 q342
              cases e342
              replace hx342_0 := (HB.out.cell (World.block_lt_of_cell? w _ hx342_0)).trans hx342_0
              replace p342 := eq_true p342
              replace q342 := eq_true q342
              go_wp2
              repeat (go_quiet (fail); try go_wp2)
              go_ret2
              exact ⟨by first | rfl | (simp [errW_none, errW_some] <;> rfl) | (simp [*, errW_none, errW_some] <;> rfl), by repeat (first | (with_reducible first | exact HB.out | apply kG | apply kD | apply kF | refine kA ?_ GE341.out) | exact HB.out)⟩
          · rw [if_neg c5] at H
            exact absurd H (by simp)
        · rw [if_neg c4] at H
          exact absurd H (by simp)
      · rw [if_neg c3] at H
        have c3b0 : decide (x4_1 < 6) = false := decide_eq_false c3
        clear c3
        by_cases c9 : 1 < (l0_1.length : Int)
        · rw [if_pos c9] at H
          have c9b0 : decide (1 < (l0_1.length : Int)) = true := decide_eq_true c9
          have c9b1 : decide (1 < l0_1.length) = true := decide_eq_true (by omega)
          clear c9
          by_cases c10 : 0 < (l0_1.length : Int)
          · rw [if_pos c10] at H
            have c10b0 : decide (0 < (l0_1.length : Int)) = true := decide_eq_true c10
            have c10b1 : decide (0 < l0_1.length) = true := decide_eq_true (by omega)
            clear c10
            have HC11 := Aside0.mk H
            clear H
            have hcz12_0 : wr.cell? ⟨gb341, 0, none⟩ = some (.bool a0_0) := (kH BK341.out 0).trans rfl
            have hcz12_1 : wr.cell? ⟨gb341, 1, none⟩ = some (.slice A0_1 l0_1.length c0_1) := (kH BK341.out 1).trans rfl
            have hfz12_0 := kJ BK341.out 0
            have hfz12_1 := kJ BK341.out 1
            have p343 : 0 ≤ (1 : Int) := (by omega)
            have q343 : 1 < (l0_1.length : Int) := of_decide_eq_true (by first | (with_reducible assumption) | assumption)
            obtain ⟨ad343, e343, hx343_0⟩ := Kd.at_int HR0_1.out 1 p343 q343
            cases e343
            (try simp only [show (1 : Int).toNat = 1 from rfl, Nat.reduceMul, Nat.reduceEqDiff, Go.Addr.add, ↓reduceIte] at hx343_0)
            have qi343 : (1 < l0_1.length) = True := eq_true (by omega)
            (try rw [show ((1 : Int)).toNat = 1 from rfl] at hx343_0)
            replace hx343_0 := (HB.out.cell (World.block_lt_of_cell? w _ hx343_0)).trans hx343_0
            replace p343 := eq_true p343
            replace q343 := eq_true q343
            have p344 : 0 ≤ (0 : Int) := (by omega)
            have q344 : 0 < (l0_1.length : Int) := of_decide_eq_true (by first | (with_reducible assumption) | assumption)
            obtain ⟨ad344, e344, hx344_0⟩ := Kd.at_int HR0_1.out 0 p344 q344
            obtain rfl : ad343 = ad344 := (by injection e344)
            have qi344 : (0 < l0_1.length) = True := eq_true (by omega)
            (try rw [show ((0 : Int)).toNat = 0 from rfl] at hx344_0)
            (try rw [Addr.add_zero'] at hx344_0)
            replace hx344_0 := (HB.out.cell (World.block_lt_of_cell? w _ hx344_0)).trans hx344_0
            replace p344 := eq_true p344
            replace q344 := eq_true q344
            go_upto_region 7 with (fail)
            repeat (go_quiet (fail); go_upto_region 7 with (fail))
            go_cut [31] (fun v31 wc => ∃ (kq : Nat) (x31_10 : Bool), v31 = .bool x31_10 ∧ Aside0 (computusref01_Small.j1 kq (Go.bits .or .u64 (IntKind.u64.wrap ((rd l0_1 1) * 4294967296)) (rd l0_1 0)) x31_10 a0_0 l0_1 = some (r1, r2)) ∧ Aside0 (kq ≤ k1) ∧ Aside0 (wc.heap[gb341]? = some (.cells #[.bool a0_0, (.slice (some ad343) l0_1.length c0_1)] 70 (0, 0))) ∧ Aside0 (Below w.heap.size w wc))
            case first =>
              have H := HC11.out
              clear HC11
              by_cases c13 : a0_0 = true
              · subst c13
                have H1 : (computusref01_Small.j1 k1 (Go.bits .or .u64 (IntKind.u64.wrap ((rd l0_1 1) * 4294967296)) (rd l0_1 0)) (decide ((Go.bits .or .u64 (IntKind.u64.wrap ((rd l0_1 1) * 4294967296)) (rd l0_1 0)) ≤ 9223372036854775808)) true l0_1) = some (r1, r2) := by rw [if_pos rfl] at H; exact H
                clear H
                have H := H1
                clear H1
                have H' := Aside0.mk H
                clear H
                have hcz14_0 : wr.cell? ⟨gb341, 0, none⟩ = some (.bool true) := (kH BK341.out 0).trans rfl
                have hcz14_1 : wr.cell? ⟨gb341, 1, none⟩ = some (.slice (some ad343) l0_1.length c0_1) := (kH BK341.out 1).trans rfl
                have hfz14_0 := kJ BK341.out 0
                have hfz14_1 := kJ BK341.out 1
                go_wp2
                repeat (go_quiet (fail); try go_wp2)
                go_meet
                case rel => exact ⟨_, (decide ((Go.bits .or .u64 (IntKind.u64.wrap ((rd l0_1 1) * 4294967296)) (rd l0_1 0)) ≤ 9223372036854775808)), (by first | rfl | (simp; done) | (simp [*]; done)), H', ⟨by have := HK1.out; first | omega | exact Nat.le_refl _⟩, ⟨by (with_reducible repeat (first | refine kB ?_ _ | refine kE ?_ | refine kC ?_ _)); exact BK341.out⟩, ⟨by repeat (first | (with_reducible first | exact HB.out | apply kG | apply kD | apply kF | refine kA ?_ GE341.out) | exact HB.out)⟩⟩
              · replace c13 := Bool.eq_false_iff.mpr c13
                subst c13
                have H1 : (computusref01_Small.j1 k1 (Go.bits .or .u64 (IntKind.u64.wrap ((rd l0_1 1) * 4294967296)) (rd l0_1 0)) false false l0_1) = some (r1, r2) := by rw [if_neg (show ¬ (false = true) by decide)] at H; exact H
                clear H
                have H := H1
                clear H1
                have H' := Aside0.mk H
                clear H
                have hcz15_0 : wr.cell? ⟨gb341, 0, none⟩ = some (.bool false) := (kH BK341.out 0).trans rfl
                have hcz15_1 : wr.cell? ⟨gb341, 1, none⟩ = some (.slice (some ad343) l0_1.length c0_1) := (kH BK341.out 1).trans rfl
                have hfz15_0 := kJ BK341.out 0
                have hfz15_1 := kJ BK341.out 1
                go_wp2
                repeat (go_quiet (fail); try go_wp2)
                go_meet
                case rel => exact ⟨_, (false), (by first | rfl | (simp; done) | (simp [*]; done)), H', ⟨by have := HK1.out; first | omega | exact Nat.le_refl _⟩, ⟨by (with_reducible repeat (first | refine kB ?_ _ | refine kE ?_ | refine kC ?_ _)); exact BK341.out⟩, ⟨by repeat (first | (with_reducible first | exact HB.out | apply kG | apply kD | apply kF | refine kA ?_ GE341.out) | exact HB.out)⟩⟩
            case rest =>
              clear HC11
              try clear c1
              try clear p2
              try clear c3
              try clear c3b0
              try clear p3
              try clear q3
              try clear hx3
              try clear qi3
              try clear c4
              try clear c4b0
              try clear c5
              try clear c5b0
              try clear c6
              try clear c6b0
              try clear c6b1
              try clear p6
              try clear c9
              try clear c9b0
              try clear c9b1
              try clear c10
              try clear c10b0
              try clear c10b1
              try clear c13
              try clear hcz12_0
              try clear hcz12_1
              try clear hcz14_0
              try clear hcz14_1
              try clear hcz15_0
              try clear hcz15_1
              try clear hcz7_0
              try clear hcz7_1
              try clear hcz8_0
              try clear hcz8_1
              try clear hfz12_0
              try clear hfz12_1
              try clear hfz14_0
              try clear hfz14_1
              try clear hfz15_0
              try clear hfz15_1
              try clear hfz7_0
              try clear hfz7_1
              try clear hfz8_0
              try clear hfz8_1
              try clear hx342_0
              try clear hx343_0
              try clear hx344_0
              try clear p2
              try clear p342
              try clear p343
              try clear p344
              try clear q342
              try clear q343
              try clear q344
              obtain ⟨kq, x31_10, rfl, HA, HJ10, BK341, HB⟩ := hcut
              cases kq with
              | zero => exact absurd HA.out (by simp [computusref01_Small.j1])
              | succ kj10 =>
                have H := HA.out
                clear HA
                simp only [computusref01_Small.j1] at H
                by_cases c16 : x31_10 = true
                · subst c16
                  have H1 : (some (wrap64 (IntKind.u64.wrap (-(Go.bits .or .u64 (IntKind.u64.wrap ((rd l0_1 1) * 4294967296)) (rd l0_1 0)))), 0)) = some (r1, r2) := by rw [if_pos rfl] at H; exact H
                  clear H
                  have H := H1
                  clear H1
                  simp only [Option.some.injEq, Prod.mk.injEq] at H
                  obtain ⟨rfl, rfl⟩ := H
                  go_wp2
                  repeat (go_quiet (fail); try go_wp2)
                  go_ret2
                  exact ⟨by first | rfl | (simp [errW_none, errW_some] <;> rfl) | (simp [*, errW_none, errW_some] <;> rfl), by repeat (first | (with_reducible first | exact HB.out | apply kG | apply kD | apply kF | refine kA ?_ GE341.out) | exact HB.out)⟩
                · replace c16 := Bool.eq_false_iff.mpr c16
                  subst c16
                  have H1 : (if a0_0 = true then (some (0, 10)) else (if (Go.bits .or .u64 (IntKind.u64.wrap ((rd l0_1 1) * 4294967296)) (rd l0_1 0)) ≥ 9223372036854775808 then (some (0, 10)) else (some (wrap64 ((Go.bits .or .u64 (IntKind.u64.wrap ((rd l0_1 1) * 4294967296)) (rd l0_1 0))), 0)))) = some (r1, r2) := by rw [if_neg (show ¬ (false = true) by decide)] at H; exact H
                  clear H
                  have H := H1
                  clear H1
                  by_cases c17 : a0_0 = true
                  · subst c17
                    have H1 : (some (0, 10)) = some (r1, r2) := by rw [if_pos rfl] at H; exact H
                    clear H
                    have H := H1
                    clear H1
                    simp only [Option.some.injEq, Prod.mk.injEq] at H
                    obtain ⟨rfl, rfl⟩ := H
                    have hcz18_0 : wc.cell? ⟨gb341, 0, none⟩ = some (.bool true) := (kH BK341.out 0).trans rfl
                    have hcz18_1 : wc.cell? ⟨gb341, 1, none⟩ = some (.slice (some ad343) l0_1.length c0_1) := (kH BK341.out 1).trans rfl
                    have hfz18_0 := kJ BK341.out 0
                    have hfz18_1 := kJ BK341.out 1
                    go_wp2
                    repeat (go_quiet (fail); try go_wp2)
                    go_ret2
                    exact ⟨by first | rfl | (simp [errW_none, errW_some] <;> rfl) | (simp [*, errW_none, errW_some] <;> rfl), by repeat (first | (with_reducible first | exact HB.out | apply kG | apply kD | apply kF | refine kA ?_ GE341.out) | exact HB.out)⟩
                  · replace c17 := Bool.eq_false_iff.mpr c17
                    subst c17
                    have H1 : (if (Go.bits .or .u64 (IntKind.u64.wrap ((rd l0_1 1) * 4294967296)) (rd l0_1 0)) ≥ 9223372036854775808 then (some (0, 10)) else (some (wrap64 ((Go.bits .or .u64 (IntKind.u64.wrap ((rd l0_1 1) * 4294967296)) (rd l0_1 0))), 0))) = some (r1, r2) := by rw [if_neg (show ¬ (false = true) by decide)] at H; exact H
                    clear H
                    have H := H1
                    clear H1
                    by_cases c19 : (Go.bits .or .u64 (IntKind.u64.wrap ((rd l0_1 1) * 4294967296)) (rd l0_1 0)) ≥ 9223372036854775808
                    · rw [if_pos c19] at H
                      have c19b0 : decide (9223372036854775808 ≤ (Go.bits .or .u64 (IntKind.u64.wrap ((rd l0_1 1) * 4294967296)) (rd l0_1 0))) = true := decide_eq_true c19
                      clear c19
                      simp only [Option.some.injEq, Prod.mk.injEq] at H
                      obtain ⟨rfl, rfl⟩ := H
                      have hcz20_0 : wc.cell? ⟨gb341, 0, none⟩ = some (.bool false) := (kH BK341.out 0).trans rfl
                      have hcz20_1 : wc.cell? ⟨gb341, 1, none⟩ = some (.slice (some ad343) l0_1.length c0_1) := (kH BK341.out 1).trans rfl
                      have hfz20_0 := kJ BK341.out 0
                      have hfz20_1 := kJ BK341.out 1
                      go_wp2
                      repeat (go_quiet (fail); try go_wp2)
                      go_ret2
                      exact ⟨by first | rfl | (simp [errW_none, errW_some] <;> rfl) | (simp [*, errW_none, errW_some] <;> rfl), by repeat (first | (with_reducible first | exact HB.out | apply kG | apply kD | apply kF | refine kA ?_ GE341.out) | exact HB.out)⟩
                    · rw [if_neg c19] at H
                      have c19b0 : decide (9223372036854775808 ≤ (Go.bits .or .u64 (IntKind.u64.wrap ((rd l0_1 1) * 4294967296)) (rd l0_1 0))) = false := decide_eq_false c19
                      clear c19
                      simp only [Option.some.injEq, Prod.mk.injEq] at H
                      obtain ⟨rfl, rfl⟩ := H
                      have hcz21_0 : wc.cell? ⟨gb341, 0, none⟩ = some (.bool false) := (kH BK341.out 0).trans rfl
                      have hcz21_1 : wc.cell? ⟨gb341, 1, none⟩ = some (.slice (some ad343) l0_1.length c0_1) := (kH BK341.out 1).trans rfl
                      have hfz21_0 := kJ BK341.out 0
                      have hfz21_1 := kJ BK341.out 1
                      go_wp2
                      repeat (go_quiet (fail); try go_wp2)
                      go_ret2
                      exact ⟨by first | rfl | (simp [errW_none, errW_some] <;> rfl) | (simp [*, errW_none, errW_some] <;> rfl), by repeat (first | (with_reducible first | exact HB.out | apply kG | apply kD | apply kF | refine kA ?_ GE341.out) | exact HB.out)⟩
          · rw [if_neg c10] at H
            exact absurd H (by simp)
        · rw [if_neg c9] at H
          exact absurd H (by simp)
end Go.Proofs.Ytgjbdojpncmmlaa.P
namespace Go.Proofs.Ytgjbdojpncmmlaa.P
open Go.RowKit Go.Proofs.YtgjbdojpncmmlaaW.PrintWords Go.Proofs.YtgjbdojpncmmlaaW.PrintLast Go.Proofs.YtgjbdojpncmmlaaW.PrintMore
attribute [local go_sem] max2_int min2_int max_two min_two max_three min_three max_four min_four   -- for this text's walks alone
set_option linter.unusedVariables false
set_option linter.unusedSimpArgs false
def computusref01_add.l0 : Nat → List Int → List Int → List Int → Int → Int → Option (List Int)
  | 0, _, _, _, _, _ => none
  | k + 1, x0, x1, x5, x6, x7 => if x7 < 6 then (if 0 ≤ x7 then (if x7 < (x0.length : Int) then (if x7 < (x1.length : Int) then (if x7 < (x5.length : Int) then (computusref01_add.l0 k x0 x1 (x5.set (x7 : Int).toNat (Go.bits .and .u64 (IntKind.u64.wrap ((IntKind.u64.wrap (x6 + (rd x0 x7))) + (rd x1 x7))) 4294967295)) ((IntKind.u64.wrap ((IntKind.u64.wrap (x6 + (rd x0 x7))) + (rd x1 x7))) / 4294967296) (wrap64 (x7 + 1))) else (none)) else (none)) else (none)) else (none)) else (some x5)
def computusref01_add.f (k : Nat) (l0 : List Int) (l1 : List Int) : Option (List Int) := if 6 ≤ 35184372088832 then (computusref01_add.l0 k l0 l1 (List.replicate 6 0) 0 0) else (none)
theorem computusref01_add.mono_l : ∀ k, (∀ y0 y1 y2 y3 y4, LeO (computusref01_add.l0 k y0 y1 y2 y3 y4) (computusref01_add.l0 (k + 1) y0 y1 y2 y3 y4))
  | 0 => fun _ _ _ _ _ r h => by simp [computusref01_add.l0] at h
  | k + 1 => by
    have ih0 := computusref01_add.mono_l k
    · intro y0 y1 y2 y3 y4
      unfold computusref01_add.l0
      repeat' first
      | (with_reducible exact ih0 _ _ _ _ _)
      | (with_reducible exact LeO.refl _)
      | (with_reducible exact LeO.none _)
      | (with_reducible refine LeO.ite ?_ ?_)
      | (with_reducible refine LeO.bind ?_ (fun _ => ?_))
      | exact ih0 _ _ _ _ _
      | exact LeO.none _
      | refine LeO.ite ?_ ?_
      | refine LeO.bind ?_ (fun _ => ?_)
theorem computusref01_add.mono : ∀ a0 a1 k, LeO (computusref01_add.f k a0 a1) (computusref01_add.f (k + 1) a0 a1) := by
  intro a0 a1 k
  have ih0 := computusref01_add.mono_l k
  unfold computusref01_add.f
  repeat' first
      | (with_reducible exact ih0 _ _ _ _ _)
      | (with_reducible exact LeO.refl _)
      | (with_reducible exact LeO.none _)
      | (with_reducible refine LeO.ite ?_ ?_)
      | (with_reducible refine LeO.bind ?_ (fun _ => ?_))
      | exact ih0 _ _ _ _ _
      | exact LeO.none _
      | refine LeO.ite ?_ ?_
      | refine LeO.bind ?_ (fun _ => ?_)
set_option maxHeartbeats 8000000 in
set_option maxRecDepth 100000 in
theorem computusref01_add.calls (k : Nat) (A0 : Option Addr) (c0 : Nat) (l0 : List Int) (A1 : Option Addr) (c1 : Nat) (l1 : List Int) (r : List Int) (w : World) (hr0 : Kd.C (Kd.int .u64) w A0 l0.length l0) (hc0 : l0.length ≤ c0) (hr1 : Kd.C (Kd.int .u64) w A1 l1.length l1) (hc1 : l1.length ≤ c1) (h : computusref01_add.f k l0 l1 = some r) :
    Calls Try.prog 84 #[.slice A0 l0.length c0, .slice A1 l1.length c1] w fun e w' => ∃ v0_ : Value, e = .returned (v0_) ∧ Kd.R (Kd.int .u64) 75 w' w.heap.size (fun _ => True) v0_ r ∧ Below w.heap.size w w' := by
  have HR0 := Aside0.mk hr0
  have HC0 := Aside0.mk hc0
  clear hr0 hc0
  have HR1 := Aside0.mk hr1
  have HC1 := Aside0.mk hc1
  clear hr1 hc1
  have HB := Aside0.mk (Below.refl w.heap.size w)
  have H : (if 6 ≤ 35184372088832 then (computusref01_add.l0 k l0 l1 (List.replicate 6 0) 0 0) else (none)) = some r := h
  clear h
  by_cases c3 : 6 ≤ 35184372088832
  · rw [if_pos c3] at H
    have c3b0 := eq_true c3
    have c3b1 : decide (6 ≤ 35184372088832) = true := decide_eq_true c3
    clear c3
    obtain ⟨y345, hy345⟩ : ∃ y_ : List Int, y_ = (List.replicate 6 0) := ⟨_, rfl⟩
    replace H : (computusref01_add.l0 k l0 l1 y345 0 0) = some r := by first | (rw [hy345]; with_reducible exact H) | (have H2_ := (Option.bind_some _ _).symm.trans H; rw [hy345]; with_reducible exact H2_) | (have H2_ := (Option.bind_some _ _).symm.trans H; with_reducible exact H2_) | with_reducible exact H | (rw [hy345]; exact H) | exact H
    have Ny345 := Aside0.mk hy345
    clear hy345
    have H' := Aside0.mk H
    clear H
    go_enter Try.func84, Try.ntmps84
    go_wp2_with (first | ((with_reducible refine gate_dst (N := 8) rfl ?_); refine Kd.R_make (Kd.int .u64) _ 75 rfl (N := 8) rfl 68 _ _ rfl 6 rfl rfl Try.underlying68 (.int .u64 0) 8 info75 rfl (by decide) (by omega) 0 (ok := fun _ => True) (okp := fun _ => True) rfl (fun _ hk => hk) trivial (by omega) (by omega) (Below.refl _ _) (Nat.le_refl _) ?_; intro v346 w4 ho5 hb hg_ hnew_; clear hg_ hnew_; (first | rw [← Ny345.out] at ho5 | (simp only [Int.reduceToNat] at ho5; rw [← Ny345.out] at ho5)); have n0_ := Aside0.mk (Kd.R_lower ho5 (kK (by repeat (first | (with_reducible first | exact HB.out | apply kG | apply kD | apply kF) | exact HB.out)))); have n1_ := Aside0.mk (kM (by repeat (first | (with_reducible first | exact HB.out | apply kG | apply kD | apply kF) | exact HB.out)) hb); clear HB; have HO347 := n0_; have HB := n1_; clear n0_ n1_; clear hb ho5))
    repeat (go_quiet (first | ((with_reducible refine gate_dst (N := 8) rfl ?_); refine Kd.R_make (Kd.int .u64) _ 75 rfl (N := 8) rfl 68 _ _ rfl 6 rfl rfl Try.underlying68 (.int .u64 0) 8 info75 rfl (by decide) (by omega) 0 (ok := fun _ => True) (okp := fun _ => True) rfl (fun _ hk => hk) trivial (by omega) (by omega) (Below.refl _ _) (Nat.le_refl _) ?_; intro v346 w4 ho5 hb hg_ hnew_; clear hg_ hnew_; (first | rw [← Ny345.out] at ho5 | (simp only [Int.reduceToNat] at ho5; rw [← Ny345.out] at ho5)); have n0_ := Aside0.mk (Kd.R_lower ho5 (kK (by repeat (first | (with_reducible first | exact HB.out | apply kG | apply kD | apply kF) | exact HB.out)))); have n1_ := Aside0.mk (kM (by repeat (first | (with_reducible first | exact HB.out | apply kG | apply kD | apply kF) | exact HB.out)) hb); clear HB; have HO347 := n0_; have HB := n1_; clear n0_ n1_; clear hb ho5)); try go_wp2_with (first | ((with_reducible refine gate_dst (N := 8) rfl ?_); refine Kd.R_make (Kd.int .u64) _ 75 rfl (N := 8) rfl 68 _ _ rfl 6 rfl rfl Try.underlying68 (.int .u64 0) 8 info75 rfl (by decide) (by omega) 0 (ok := fun _ => True) (okp := fun _ => True) rfl (fun _ hk => hk) trivial (by omega) (by omega) (Below.refl _ _) (Nat.le_refl _) ?_; intro v346 w4 ho5 hb hg_ hnew_; clear hg_ hnew_; (first | rw [← Ny345.out] at ho5 | (simp only [Int.reduceToNat] at ho5; rw [← Ny345.out] at ho5)); have n0_ := Aside0.mk (Kd.R_lower ho5 (kK (by repeat (first | (with_reducible first | exact HB.out | apply kG | apply kD | apply kF) | exact HB.out)))); have n1_ := Aside0.mk (kM (by repeat (first | (with_reducible first | exact HB.out | apply kG | apply kD | apply kF) | exact HB.out)) hb); clear HB; have HO347 := n0_; have HB := n1_; clear n0_ n1_; clear hb ho5)))
    go_loopg [6, 7] k (fun kq v6 v7 w' => ∃ (x5_1 : List Int) (x6_1 : Int) (x7_1 : Int), v6 = .int .u64 x6_1 ∧ v7 = .int .i64 x7_1 ∧ Aside0 (computusref01_add.l0 kq l0 l1 x5_1 x6_1 x7_1 = some r) ∧ Aside0 (kq ≤ k) ∧ Aside0 (Kd.R (Kd.int .u64) 75 w' w.heap.size (fun _ => True) v346 x5_1) ∧ Aside0 (Below w.heap.size w w'))
    case atStart => exact ⟨(y345), (0), (0), (by first | rfl | (simp; done) | (simp [*]; done)), (by first | rfl | (simp; done) | (simp [*]; done)), H', ⟨Nat.le_refl _⟩, ⟨by (with_reducible repeat (first | apply Kd.R_alloc | apply Kd.R_drewN | apply Kd.R_drew)); exact HO347.out⟩, ⟨by repeat (first | (with_reducible first | exact HB.out | apply kG | apply kD | apply kF) | exact HB.out)⟩⟩
    case round =>
      clear H'
      try clear c1
      try clear p2
      try clear c3
      try clear c3b0
      try clear c3b1
      obtain ⟨x5_1, x6_1, x7_1, rfl, rfl, HA, HK1, HO_5, HB⟩ := hrel
      cases gk with
      | zero => exact absurd HA.out (by simp [computusref01_add.l0])
      | succ k1 =>
        have H := HA.out
        clear HA
        simp only [computusref01_add.l0] at H
        by_cases c6 : x7_1 < 6
        · rw [if_pos c6] at H
          have c6b0 : decide (x7_1 < 6) = true := decide_eq_true c6
          clear c6
          by_cases c7 : 0 ≤ x7_1
          · rw [if_pos c7] at H
            have c7b0 : decide (0 ≤ x7_1) = true := decide_eq_true c7
            clear c7
            by_cases c8 : x7_1 < (l0.length : Int)
            · rw [if_pos c8] at H
              have c8b0 : decide (x7_1 < (l0.length : Int)) = true := decide_eq_true c8
              clear c8
              by_cases c9 : x7_1 < (l1.length : Int)
              · rw [if_pos c9] at H
                have c9b0 : decide (x7_1 < (l1.length : Int)) = true := decide_eq_true c9
                clear c9
                by_cases c10 : x7_1 < (x5_1.length : Int)
                · rw [if_pos c10] at H
                  have c10b0 : decide (x7_1 < (x5_1.length : Int)) = true := decide_eq_true c10
                  clear c10
                  obtain ⟨y350, hy350⟩ : ∃ y_ : List Int, y_ = (x5_1.set (x7_1 : Int).toNat (Go.bits .and .u64 (IntKind.u64.wrap ((IntKind.u64.wrap (x6_1 + (rd l0 x7_1))) + (rd l1 x7_1))) 4294967295)) := ⟨_, rfl⟩
                  replace H : (computusref01_add.l0 k1 l0 l1 y350 ((IntKind.u64.wrap ((IntKind.u64.wrap (x6_1 + (rd l0 x7_1))) + (rd l1 x7_1))) / 4294967296) (wrap64 (x7_1 + 1))) = some r := by first | (rw [hy350]; with_reducible exact H) | (have H2_ := (Option.bind_some _ _).symm.trans H; rw [hy350]; with_reducible exact H2_) | (have H2_ := (Option.bind_some _ _).symm.trans H; with_reducible exact H2_) | with_reducible exact H | (rw [hy350]; exact H) | exact H
                  have Ny350 := Aside0.mk hy350
                  clear hy350
                  have H' := Aside0.mk H
                  clear H
                  have p348 : 0 ≤ (x7_1 : Int) := of_decide_eq_true (by first | (with_reducible assumption) | assumption)
                  have q348 : x7_1 < (l0.length : Int) := of_decide_eq_true (by first | (with_reducible assumption) | assumption)
                  obtain ⟨ad348, e348, hx348_0⟩ := Kd.at_int HR0.out x7_1 p348 q348
                  cases e348
                  replace hx348_0 := (HB.out.cell (World.block_lt_of_cell? w _ hx348_0)).trans hx348_0
                  replace p348 := eq_true p348
                  replace q348 := eq_true q348
                  have p349 : 0 ≤ (x7_1 : Int) := of_decide_eq_true (by first | (with_reducible assumption) | assumption)
                  have q349 : x7_1 < (l1.length : Int) := of_decide_eq_true (by first | (with_reducible assumption) | assumption)
                  obtain ⟨ad349, e349, hx349_0⟩ := Kd.at_int HR1.out x7_1 p349 q349
                  cases e349
                  replace hx349_0 := (HB.out.cell (World.block_lt_of_cell? w _ hx349_0)).trans hx349_0
                  replace p349 := eq_true p349
                  replace q349 := eq_true q349
                  have p11 : 0 ≤ (x7_1 : Int) := of_decide_eq_true (by first | (with_reducible assumption) | assumption)
                  have q11 : (x7_1 : Int) < ((x5_1.length : Int) : Int) := of_decide_eq_true (by first | (with_reducible assumption) | assumption)
                  obtain ⟨go11, co11, eo11, gb11, gl11, cl11, HG11⟩ := Kd.R_form HO_5.out (by omega)
                  (first | cases eo11 | (injection eo11 with ea_ en_ ec_; (first | subst ea_ | (injection ea_ with ea_; subst ea_)); subst ec_; clear en_))
                  have GB11 := Aside0.mk gb11
                  have GG11 := Aside0.mk HG11
                  clear gb11 gl11 HG11
                  obtain ⟨hx11_0, hf11_0⟩ := Kd.R_celln 0 HO_5.out (x7_1 : Int) p11 q11
                  replace p11 := eq_true p11
                  replace q11 := eq_true q11
                  have HP12 := Kd.R_putg HO_5.out (x7_1 : Int) (Go.bits .and .u64 (IntKind.u64.wrap ((IntKind.u64.wrap (x6_1 + (rd l0 x7_1))) + (rd l1 x7_1))) 4294967295)
                  go_wp2_with (first | ((with_reducible refine gate_store (t := 75) (p := 28) rfl ?_); (try (rw [drewN_self wr]; generalize hq_ : World.drewN wr _ = wr; have n0_ := Aside0.mk (Kd.R_at hq_ HO_5.out); have n1_ := Aside0.mk (below_at hq_ HB.out); clear hq_ HO_5 HB; have HO_5 := n0_; have HB := n1_; clear n0_ n1_; (try (obtain ⟨hxr_, hfr_⟩ := Kd.R_celln 0 HO_5.out (x7_1 : Int) (of_eq_true p11) (of_eq_true q11))); (try (have HP12 := Kd.R_putg HO_5.out (x7_1 : Int) (Go.bits .and .u64 (IntKind.u64.wrap ((IntKind.u64.wrap (x6_1 + (rd l0 x7_1))) + (rd l1 x7_1))) 4294967295))))); refine store_event (t := 75) (p := 28) (v := ?vo_w13) (w1 := (wr.setCell ⟨go11, (x7_1 : Int).toNat, none⟩ (.int .u64 (Go.bits .and .u64 (IntKind.u64.wrap ((IntKind.u64.wrap (x6_1 + (rd l0 x7_1))) + (rd l1 x7_1))) 4294967295)))) ?hg ?ho ?hn ?hr ?_; (case ho => rfl); (case hg => rfl); (case hn => rfl); (case hr => first | (go_simp; done) | (go_simp; rfl)); intro w13 hw; have hg : wr.grownBy w13 (some go11) := (by rw [hw]; exact HP12.2); have hp_ : Kd.R (Kd.int .u64) 75 w13 w.heap.size (fun _ => True) (.slice (some ⟨go11, 0, none⟩) x5_1.length co11) y350 := (by rw [hw, Ny350.out]; exact HP12.1); clear HP12; have n0_ := Aside0.mk (hp_); have n1_ := Aside0.mk ((by rw [hw]; exact kA (HB.out) GB11.out : Below w.heap.size w w13)); clear HO_5; clear HB; have HO_5 := n0_; have HB := n1_; clear n0_ n1_; clear hg hw hp_))
                  repeat (go_quiet (first | ((with_reducible refine gate_store (t := 75) (p := 28) rfl ?_); (try (rw [drewN_self wr]; generalize hq_ : World.drewN wr _ = wr; have n0_ := Aside0.mk (Kd.R_at hq_ HO_5.out); have n1_ := Aside0.mk (below_at hq_ HB.out); clear hq_ HO_5 HB; have HO_5 := n0_; have HB := n1_; clear n0_ n1_; (try (obtain ⟨hxr_, hfr_⟩ := Kd.R_celln 0 HO_5.out (x7_1 : Int) (of_eq_true p11) (of_eq_true q11))); (try (have HP12 := Kd.R_putg HO_5.out (x7_1 : Int) (Go.bits .and .u64 (IntKind.u64.wrap ((IntKind.u64.wrap (x6_1 + (rd l0 x7_1))) + (rd l1 x7_1))) 4294967295))))); refine store_event (t := 75) (p := 28) (v := ?vo_w13) (w1 := (wr.setCell ⟨go11, (x7_1 : Int).toNat, none⟩ (.int .u64 (Go.bits .and .u64 (IntKind.u64.wrap ((IntKind.u64.wrap (x6_1 + (rd l0 x7_1))) + (rd l1 x7_1))) 4294967295)))) ?hg ?ho ?hn ?hr ?_; (case ho => rfl); (case hg => rfl); (case hn => rfl); (case hr => first | (go_simp; done) | (go_simp; rfl)); intro w13 hw; have hg : wr.grownBy w13 (some go11) := (by rw [hw]; exact HP12.2); have hp_ : Kd.R (Kd.int .u64) 75 w13 w.heap.size (fun _ => True) (.slice (some ⟨go11, 0, none⟩) x5_1.length co11) y350 := (by rw [hw, Ny350.out]; exact HP12.1); clear HP12; have n0_ := Aside0.mk (hp_); have n1_ := Aside0.mk ((by rw [hw]; exact kA (HB.out) GB11.out : Below w.heap.size w w13)); clear HO_5; clear HB; have HO_5 := n0_; have HB := n1_; clear n0_ n1_; clear hg hw hp_)); try go_wp2_with (first | ((with_reducible refine gate_store (t := 75) (p := 28) rfl ?_); (try (rw [drewN_self wr]; generalize hq_ : World.drewN wr _ = wr; have n0_ := Aside0.mk (Kd.R_at hq_ HO_5.out); have n1_ := Aside0.mk (below_at hq_ HB.out); clear hq_ HO_5 HB; have HO_5 := n0_; have HB := n1_; clear n0_ n1_; (try (obtain ⟨hxr_, hfr_⟩ := Kd.R_celln 0 HO_5.out (x7_1 : Int) (of_eq_true p11) (of_eq_true q11))); (try (have HP12 := Kd.R_putg HO_5.out (x7_1 : Int) (Go.bits .and .u64 (IntKind.u64.wrap ((IntKind.u64.wrap (x6_1 + (rd l0 x7_1))) + (rd l1 x7_1))) 4294967295))))); refine store_event (t := 75) (p := 28) (v := ?vo_w13) (w1 := (wr.setCell ⟨go11, (x7_1 : Int).toNat, none⟩ (.int .u64 (Go.bits .and .u64 (IntKind.u64.wrap ((IntKind.u64.wrap (x6_1 + (rd l0 x7_1))) + (rd l1 x7_1))) 4294967295)))) ?hg ?ho ?hn ?hr ?_; (case ho => rfl); (case hg => rfl); (case hn => rfl); (case hr => first | (go_simp; done) | (go_simp; rfl)); intro w13 hw; have hg : wr.grownBy w13 (some go11) := (by rw [hw]; exact HP12.2); have hp_ : Kd.R (Kd.int .u64) 75 w13 w.heap.size (fun _ => True) (.slice (some ⟨go11, 0, none⟩) x5_1.length co11) y350 := (by rw [hw, Ny350.out]; exact HP12.1); clear HP12; have n0_ := Aside0.mk (hp_); have n1_ := Aside0.mk ((by rw [hw]; exact kA (HB.out) GB11.out : Below w.heap.size w w13)); clear HO_5; clear HB; have HO_5 := n0_; have HB := n1_; clear n0_ n1_; clear hg hw hp_)))
                  go_roundg k1
                  case measure => have := HK1.out; omega
                  case rel => exact ⟨(y350), ((IntKind.u64.wrap ((IntKind.u64.wrap (x6_1 + (rd l0 x7_1))) + (rd l1 x7_1))) / 4294967296), (wrap64 (x7_1 + 1)), (by first | rfl | (simp; done) | (simp [*]; done)), (by first | rfl | (simp; done) | (simp [*]; done)), H', ⟨by have := HK1.out; omega⟩, ⟨by (with_reducible repeat (first | apply Kd.R_alloc | apply Kd.R_drewN | apply Kd.R_drew)); exact HO_5.out⟩, ⟨by repeat (first | (with_reducible first | exact HB.out | apply kG | apply kD | apply kF) | exact HB.out)⟩⟩
                · rw [if_neg c10] at H
                  exact absurd H (by simp)
              · rw [if_neg c9] at H
                exact absurd H (by simp)
            · rw [if_neg c8] at H
              exact absurd H (by simp)
          · rw [if_neg c7] at H
            exact absurd H (by simp)
        · rw [if_neg c6] at H
          have c6b0 : decide (x7_1 < 6) = false := decide_eq_false c6
          clear c6
          obtain rfl := Option.some.inj H
          go_wp2
          repeat (go_quiet (fail); try go_wp2)
          go_ret
          exact ⟨_, by first | rfl | (simp [errW_none, errW_some] <;> rfl) | (simp [*, errW_none, errW_some] <;> rfl), by (with_reducible repeat (first | apply Kd.R_alloc | apply Kd.R_drewN | apply Kd.R_drew)); exact HO_5.out, by repeat (first | (with_reducible first | exact HB.out | apply kG | apply kD | apply kF) | exact HB.out)⟩
  · rw [if_neg c3] at H
    exact absurd H (by simp)
end Go.Proofs.Ytgjbdojpncmmlaa.P
namespace Go.Proofs.Ytgjbdojpncmmlaa.P
open Go.RowKit Go.Proofs.YtgjbdojpncmmlaaW.PrintWords Go.Proofs.YtgjbdojpncmmlaaW.PrintLast Go.Proofs.YtgjbdojpncmmlaaW.PrintMore
attribute [local go_sem] max2_int min2_int max_two min_two max_three min_three max_four min_four   -- for this text's walks alone
set_option linter.unusedVariables false
set_option linter.unusedSimpArgs false
def computusref01_cmp.l0 : Nat → List Int → List Int → Int → Option (Int)
  | 0, _, _, _ => none
  | k + 1, x0, x1, x5 => if x5 ≥ 0 then (if 0 ≤ x5 then (if x5 < (x0.length : Int) then (if x5 < (x1.length : Int) then (if (rd x0 x5) < (rd x1 x5) then (some (-1)) else (if (rd x0 x5) > (rd x1 x5) then (some 1) else (computusref01_cmp.l0 k x0 x1 (wrap64 (x5 - 1))))) else (none)) else (none)) else (none)) else (some 0)
def computusref01_cmp.f (k : Nat) (l0 : List Int) (l1 : List Int) : Option (Int) := computusref01_cmp.l0 k l0 l1 5
theorem computusref01_cmp.mono_l : ∀ k, (∀ y0 y1 y2, LeO (computusref01_cmp.l0 k y0 y1 y2) (computusref01_cmp.l0 (k + 1) y0 y1 y2))
  | 0 => fun _ _ _ r h => by simp [computusref01_cmp.l0] at h
  | k + 1 => by
    have ih0 := computusref01_cmp.mono_l k
    · intro y0 y1 y2
      unfold computusref01_cmp.l0
      repeat' first
      | (with_reducible exact ih0 _ _ _)
      | (with_reducible exact LeO.refl _)
      | (with_reducible exact LeO.none _)
      | (with_reducible refine LeO.ite ?_ ?_)
      | (with_reducible refine LeO.bind ?_ (fun _ => ?_))
      | exact ih0 _ _ _
      | exact LeO.none _
      | refine LeO.ite ?_ ?_
      | refine LeO.bind ?_ (fun _ => ?_)
theorem computusref01_cmp.mono : ∀ a0 a1 k, LeO (computusref01_cmp.f k a0 a1) (computusref01_cmp.f (k + 1) a0 a1) := by
  intro a0 a1 k
  have ih0 := computusref01_cmp.mono_l k
  unfold computusref01_cmp.f
  repeat' first
      | (with_reducible exact ih0 _ _ _)
      | (with_reducible exact LeO.refl _)
      | (with_reducible exact LeO.none _)
      | (with_reducible refine LeO.ite ?_ ?_)
      | (with_reducible refine LeO.bind ?_ (fun _ => ?_))
      | exact ih0 _ _ _
      | exact LeO.none _
      | refine LeO.ite ?_ ?_
      | refine LeO.bind ?_ (fun _ => ?_)
set_option maxHeartbeats 8000000 in
set_option maxRecDepth 100000 in
theorem computusref01_cmp.calls (k : Nat) (A0 : Option Addr) (c0 : Nat) (l0 : List Int) (A1 : Option Addr) (c1 : Nat) (l1 : List Int) (r : Int) (w : World) (hr0 : Kd.C (Kd.int .u64) w A0 l0.length l0) (hc0 : l0.length ≤ c0) (hr1 : Kd.C (Kd.int .u64) w A1 l1.length l1) (hc1 : l1.length ≤ c1) (h : computusref01_cmp.f k l0 l1 = some r) :
    Calls Try.prog 85 #[.slice A0 l0.length c0, .slice A1 l1.length c1] w fun e w' => e = .returned (.int .i64 r) ∧ Drawn0 w w' := by
  have HR0 := Aside0.mk hr0
  have HC0 := Aside0.mk hc0
  clear hr0 hc0
  have HR1 := Aside0.mk hr1
  have HC1 := Aside0.mk hc1
  clear hr1 hc1
  have H : (computusref01_cmp.l0 k l0 l1 5) = some r := h
  clear h
  have H' := Aside0.mk H
  clear H
  go_enter Try.func85, Try.ntmps85
  go_wp2
  repeat (go_quiet (fail); try go_wp2)
  go_loopg [5] k (fun kq v5 w' => ∃ (x5_1 : Int), v5 = .int .i64 x5_1 ∧ Aside0 (computusref01_cmp.l0 kq l0 l1 x5_1 = some r) ∧ Aside0 (kq ≤ k) ∧ Drawn0 w w')
  case atStart => exact ⟨(5), (by first | rfl | (simp; done) | (simp [*]; done)), H', ⟨Nat.le_refl _⟩, by repeat (first | exact Drawn0.refl _ | apply Drawn0.step)⟩
  case round =>
    clear H'
    try clear c1
    try clear p2
    obtain ⟨x5_1, rfl, HA, HK1, ⟨m1, rfl⟩⟩ := hrel
    cases gk with
    | zero => exact absurd HA.out (by simp [computusref01_cmp.l0])
    | succ k1 =>
      have H := HA.out
      clear HA
      simp only [computusref01_cmp.l0] at H
      by_cases c3 : x5_1 ≥ 0
      · rw [if_pos c3] at H
        have c3b0 : decide (0 ≤ x5_1) = true := decide_eq_true c3
        clear c3
        by_cases c4 : 0 ≤ x5_1
        · rw [if_pos c4] at H
          have c4b0 : decide (0 ≤ x5_1) = true := decide_eq_true c4
          clear c4
          by_cases c5 : x5_1 < (l0.length : Int)
          · rw [if_pos c5] at H
            have c5b0 : decide (x5_1 < (l0.length : Int)) = true := decide_eq_true c5
            clear c5
            by_cases c6 : x5_1 < (l1.length : Int)
            · rw [if_pos c6] at H
              have c6b0 : decide (x5_1 < (l1.length : Int)) = true := decide_eq_true c6
              clear c6
              by_cases c7 : (rd l0 x5_1) < (rd l1 x5_1)
              · rw [if_pos c7] at H
                have c7b0 : decide ((rd l0 x5_1) < (rd l1 x5_1)) = true := decide_eq_true c7
                clear c7
                obtain rfl := Option.some.inj H
                have p351 : 0 ≤ (x5_1 : Int) := of_decide_eq_true (by first | (with_reducible assumption) | assumption)
                have q351 : x5_1 < (l0.length : Int) := of_decide_eq_true (by first | (with_reducible assumption) | assumption)
                obtain ⟨ad351, e351, hx351_0⟩ := Kd.at_int HR0.out x5_1 p351 q351
                cases e351
                replace p351 := eq_true p351
                replace q351 := eq_true q351
                have p352 : 0 ≤ (x5_1 : Int) := of_decide_eq_true (by first | (with_reducible assumption) | assumption)
                have q352 : x5_1 < (l1.length : Int) := of_decide_eq_true (by first | (with_reducible assumption) | assumption)
                obtain ⟨ad352, e352, hx352_0⟩ := Kd.at_int HR1.out x5_1 p352 q352
                cases e352
                replace p352 := eq_true p352
                replace q352 := eq_true q352
                go_wp2
                repeat (go_quiet (fail); try go_wp2)
                go_ret
                exact ⟨by first | rfl | (simp; done) | (simp [*]; done), by repeat (first | exact Drawn0.refl _ | apply Drawn0.step)⟩
              · rw [if_neg c7] at H
                have c7b0 : decide ((rd l0 x5_1) < (rd l1 x5_1)) = false := decide_eq_false c7
                clear c7
                by_cases c8 : (rd l0 x5_1) > (rd l1 x5_1)
                · rw [if_pos c8] at H
                  have c8b0 : decide ((rd l1 x5_1) < (rd l0 x5_1)) = true := decide_eq_true c8
                  clear c8
                  obtain rfl := Option.some.inj H
                  have p351 : 0 ≤ (x5_1 : Int) := of_decide_eq_true (by first | (with_reducible assumption) | assumption)
                  have q351 : x5_1 < (l0.length : Int) := of_decide_eq_true (by first | (with_reducible assumption) | assumption)
                  obtain ⟨ad351, e351, hx351_0⟩ := Kd.at_int HR0.out x5_1 p351 q351
                  cases e351
                  replace p351 := eq_true p351
                  replace q351 := eq_true q351
                  have p352 : 0 ≤ (x5_1 : Int) := of_decide_eq_true (by first | (with_reducible assumption) | assumption)
                  have q352 : x5_1 < (l1.length : Int) := of_decide_eq_true (by first | (with_reducible assumption) | assumption)
                  obtain ⟨ad352, e352, hx352_0⟩ := Kd.at_int HR1.out x5_1 p352 q352
                  cases e352
                  replace p352 := eq_true p352
                  replace q352 := eq_true q352
                  have p353 : 0 ≤ (x5_1 : Int) := of_decide_eq_true (by first | (with_reducible assumption) | assumption)
                  have q353 : x5_1 < (l0.length : Int) := of_decide_eq_true (by first | (with_reducible assumption) | assumption)
                  obtain ⟨ad353, e353, hx353_0⟩ := Kd.at_int HR0.out x5_1 p353 q353
                  obtain rfl : ad351 = ad353 := (by injection e353)
                  replace p353 := eq_true p353
                  replace q353 := eq_true q353
                  have p354 : 0 ≤ (x5_1 : Int) := of_decide_eq_true (by first | (with_reducible assumption) | assumption)
                  have q354 : x5_1 < (l1.length : Int) := of_decide_eq_true (by first | (with_reducible assumption) | assumption)
                  obtain ⟨ad354, e354, hx354_0⟩ := Kd.at_int HR1.out x5_1 p354 q354
                  obtain rfl : ad352 = ad354 := (by injection e354)
                  replace p354 := eq_true p354
                  replace q354 := eq_true q354
                  go_wp2
                  repeat (go_quiet (fail); try go_wp2)
                  go_ret
                  exact ⟨by first | rfl | (simp; done) | (simp [*]; done), by repeat (first | exact Drawn0.refl _ | apply Drawn0.step)⟩
                · rw [if_neg c8] at H
                  have c8b0 : decide ((rd l1 x5_1) < (rd l0 x5_1)) = false := decide_eq_false c8
                  clear c8
                  have H' := Aside0.mk H
                  clear H
                  have p351 : 0 ≤ (x5_1 : Int) := of_decide_eq_true (by first | (with_reducible assumption) | assumption)
                  have q351 : x5_1 < (l0.length : Int) := of_decide_eq_true (by first | (with_reducible assumption) | assumption)
                  obtain ⟨ad351, e351, hx351_0⟩ := Kd.at_int HR0.out x5_1 p351 q351
                  cases e351
                  replace p351 := eq_true p351
                  replace q351 := eq_true q351
                  have p352 : 0 ≤ (x5_1 : Int) := of_decide_eq_true (by first | (with_reducible assumption) | assumption)
                  have q352 : x5_1 < (l1.length : Int) := of_decide_eq_true (by first | (with_reducible assumption) | assumption)
                  obtain ⟨ad352, e352, hx352_0⟩ := Kd.at_int HR1.out x5_1 p352 q352
                  cases e352
                  replace p352 := eq_true p352
                  replace q352 := eq_true q352
                  have p353 : 0 ≤ (x5_1 : Int) := of_decide_eq_true (by first | (with_reducible assumption) | assumption)
                  have q353 : x5_1 < (l0.length : Int) := of_decide_eq_true (by first | (with_reducible assumption) | assumption)
                  obtain ⟨ad353, e353, hx353_0⟩ := Kd.at_int HR0.out x5_1 p353 q353
                  obtain rfl : ad351 = ad353 := (by injection e353)
                  replace p353 := eq_true p353
                  replace q353 := eq_true q353
                  have p354 : 0 ≤ (x5_1 : Int) := of_decide_eq_true (by first | (with_reducible assumption) | assumption)
                  have q354 : x5_1 < (l1.length : Int) := of_decide_eq_true (by first | (with_reducible assumption) | assumption)
                  obtain ⟨ad354, e354, hx354_0⟩ := Kd.at_int HR1.out x5_1 p354 q354
                  obtain rfl : ad352 = ad354 := (by injection e354)
                  replace p354 := eq_true p354
                  replace q354 := eq_true q354
                  go_wp2
                  repeat (go_quiet (fail); try go_wp2)
                  go_roundg k1
                  case measure => have := HK1.out; omega
                  case rel => exact ⟨(wrap64 (x5_1 - 1)), (by first | rfl | (simp; done) | (simp [*]; done)), H', ⟨by have := HK1.out; omega⟩, by repeat (first | exact Drawn0.refl _ | apply Drawn0.step)⟩
            · rw [if_neg c6] at H
              exact absurd H (by simp)
          · rw [if_neg c5] at H
            exact absurd H (by simp)
        · rw [if_neg c4] at H
          exact absurd H (by simp)
      · rw [if_neg c3] at H
        have c3b0 : decide (0 ≤ x5_1) = false := decide_eq_false c3
        clear c3
        obtain rfl := Option.some.inj H
        go_wp2
        repeat (go_quiet (fail); try go_wp2)
        go_ret
        exact ⟨by first | rfl | (simp; done) | (simp [*]; done), by repeat (first | exact Drawn0.refl _ | apply Drawn0.step)⟩
end Go.Proofs.Ytgjbdojpncmmlaa.P
namespace Go.Proofs.Ytgjbdojpncmmlaa.P
open Go.RowKit Go.Proofs.YtgjbdojpncmmlaaW.PrintWords Go.Proofs.YtgjbdojpncmmlaaW.PrintLast Go.Proofs.YtgjbdojpncmmlaaW.PrintMore
attribute [local go_sem] max2_int min2_int max_two min_two max_three min_three max_four min_four   -- for this text's walks alone
set_option linter.unusedVariables false
set_option linter.unusedSimpArgs false
def computusref01_less.l0 : Nat → List Int → List Int → List Int → Int → Int → Option (List Int)
  | 0, _, _, _, _, _ => none
  | k + 1, x0, x1, x5, x6, x7 => if x7 < 6 then (if 0 ≤ x7 then (if x7 < (x0.length : Int) then (if x7 < (x1.length : Int) then (if x7 < (x5.length : Int) then (computusref01_less.l0 k x0 x1 (x5.set (x7 : Int).toNat (Go.bits .and .u64 (IntKind.u64.wrap ((IntKind.u64.wrap ((IntKind.u64.wrap ((rd x0 x7) + 4294967296)) - (rd x1 x7))) - x6)) 4294967295)) (IntKind.u64.wrap (1 - ((IntKind.u64.wrap ((IntKind.u64.wrap ((IntKind.u64.wrap ((rd x0 x7) + 4294967296)) - (rd x1 x7))) - x6)) / 4294967296))) (wrap64 (x7 + 1))) else (none)) else (none)) else (none)) else (none)) else (some x5)
def computusref01_less.f (k : Nat) (l0 : List Int) (l1 : List Int) : Option (List Int) := if 6 ≤ 35184372088832 then (computusref01_less.l0 k l0 l1 (List.replicate 6 0) 0 0) else (none)
theorem computusref01_less.mono_l : ∀ k, (∀ y0 y1 y2 y3 y4, LeO (computusref01_less.l0 k y0 y1 y2 y3 y4) (computusref01_less.l0 (k + 1) y0 y1 y2 y3 y4))
  | 0 => fun _ _ _ _ _ r h => by simp [computusref01_less.l0] at h
  | k + 1 => by
    have ih0 := computusref01_less.mono_l k
    · intro y0 y1 y2 y3 y4
      unfold computusref01_less.l0
      repeat' first
      | (with_reducible exact ih0 _ _ _ _ _)
      | (with_reducible exact LeO.refl _)
      | (with_reducible exact LeO.none _)
      | (with_reducible refine LeO.ite ?_ ?_)
      | (with_reducible refine LeO.bind ?_ (fun _ => ?_))
      | exact ih0 _ _ _ _ _
      | exact LeO.none _
      | refine LeO.ite ?_ ?_
      | refine LeO.bind ?_ (fun _ => ?_)
theorem computusref01_less.mono : ∀ a0 a1 k, LeO (computusref01_less.f k a0 a1) (computusref01_less.f (k + 1) a0 a1) := by
  intro a0 a1 k
  have ih0 := computusref01_less.mono_l k
  unfold computusref01_less.f
  repeat' first
      | (with_reducible exact ih0 _ _ _ _ _)
      | (with_reducible exact LeO.refl _)
      | (with_reducible exact LeO.none _)
      | (with_reducible refine LeO.ite ?_ ?_)
      | (with_reducible refine LeO.bind ?_ (fun _ => ?_))
      | exact ih0 _ _ _ _ _
      | exact LeO.none _
      | refine LeO.ite ?_ ?_
      | refine LeO.bind ?_ (fun _ => ?_)
set_option maxHeartbeats 8000000 in
set_option maxRecDepth 100000 in
theorem computusref01_less.calls (k : Nat) (A0 : Option Addr) (c0 : Nat) (l0 : List Int) (A1 : Option Addr) (c1 : Nat) (l1 : List Int) (r : List Int) (w : World) (hr0 : Kd.C (Kd.int .u64) w A0 l0.length l0) (hc0 : l0.length ≤ c0) (hr1 : Kd.C (Kd.int .u64) w A1 l1.length l1) (hc1 : l1.length ≤ c1) (h : computusref01_less.f k l0 l1 = some r) :
    Calls Try.prog 86 #[.slice A0 l0.length c0, .slice A1 l1.length c1] w fun e w' => ∃ v0_ : Value, e = .returned (v0_) ∧ Kd.R (Kd.int .u64) 75 w' w.heap.size (fun _ => True) v0_ r ∧ Below w.heap.size w w' := by
  have HR0 := Aside0.mk hr0
  have HC0 := Aside0.mk hc0
  clear hr0 hc0
  have HR1 := Aside0.mk hr1
  have HC1 := Aside0.mk hc1
  clear hr1 hc1
  have HB := Aside0.mk (Below.refl w.heap.size w)
  have H : (if 6 ≤ 35184372088832 then (computusref01_less.l0 k l0 l1 (List.replicate 6 0) 0 0) else (none)) = some r := h
  clear h
  by_cases c3 : 6 ≤ 35184372088832
  · rw [if_pos c3] at H
    have c3b0 := eq_true c3
    have c3b1 : decide (6 ≤ 35184372088832) = true := decide_eq_true c3
    clear c3
    obtain ⟨y355, hy355⟩ : ∃ y_ : List Int, y_ = (List.replicate 6 0) := ⟨_, rfl⟩
    replace H : (computusref01_less.l0 k l0 l1 y355 0 0) = some r := by first | (rw [hy355]; with_reducible exact H) | (have H2_ := (Option.bind_some _ _).symm.trans H; rw [hy355]; with_reducible exact H2_) | (have H2_ := (Option.bind_some _ _).symm.trans H; with_reducible exact H2_) | with_reducible exact H | (rw [hy355]; exact H) | exact H
    have Ny355 := Aside0.mk hy355
    clear hy355
    have H' := Aside0.mk H
    clear H
    go_enter Try.func86, Try.ntmps86
    go_wp2_with (first | ((with_reducible refine gate_dst (N := 9) rfl ?_); refine Kd.R_make (Kd.int .u64) _ 75 rfl (N := 9) rfl 68 _ _ rfl 6 rfl rfl Try.underlying68 (.int .u64 0) 8 info75 rfl (by decide) (by omega) 0 (ok := fun _ => True) (okp := fun _ => True) rfl (fun _ hk => hk) trivial (by omega) (by omega) (Below.refl _ _) (Nat.le_refl _) ?_; intro v356 w4 ho5 hb hg_ hnew_; clear hg_ hnew_; (first | rw [← Ny355.out] at ho5 | (simp only [Int.reduceToNat] at ho5; rw [← Ny355.out] at ho5)); have n0_ := Aside0.mk (Kd.R_lower ho5 (kK (by repeat (first | (with_reducible first | exact HB.out | apply kG | apply kD | apply kF) | exact HB.out)))); have n1_ := Aside0.mk (kM (by repeat (first | (with_reducible first | exact HB.out | apply kG | apply kD | apply kF) | exact HB.out)) hb); clear HB; have HO357 := n0_; have HB := n1_; clear n0_ n1_; clear hb ho5))
    repeat (go_quiet (first | ((with_reducible refine gate_dst (N := 9) rfl ?_); refine Kd.R_make (Kd.int .u64) _ 75 rfl (N := 9) rfl 68 _ _ rfl 6 rfl rfl Try.underlying68 (.int .u64 0) 8 info75 rfl (by decide) (by omega) 0 (ok := fun _ => True) (okp := fun _ => True) rfl (fun _ hk => hk) trivial (by omega) (by omega) (Below.refl _ _) (Nat.le_refl _) ?_; intro v356 w4 ho5 hb hg_ hnew_; clear hg_ hnew_; (first | rw [← Ny355.out] at ho5 | (simp only [Int.reduceToNat] at ho5; rw [← Ny355.out] at ho5)); have n0_ := Aside0.mk (Kd.R_lower ho5 (kK (by repeat (first | (with_reducible first | exact HB.out | apply kG | apply kD | apply kF) | exact HB.out)))); have n1_ := Aside0.mk (kM (by repeat (first | (with_reducible first | exact HB.out | apply kG | apply kD | apply kF) | exact HB.out)) hb); clear HB; have HO357 := n0_; have HB := n1_; clear n0_ n1_; clear hb ho5)); try go_wp2_with (first | ((with_reducible refine gate_dst (N := 9) rfl ?_); refine Kd.R_make (Kd.int .u64) _ 75 rfl (N := 9) rfl 68 _ _ rfl 6 rfl rfl Try.underlying68 (.int .u64 0) 8 info75 rfl (by decide) (by omega) 0 (ok := fun _ => True) (okp := fun _ => True) rfl (fun _ hk => hk) trivial (by omega) (by omega) (Below.refl _ _) (Nat.le_refl _) ?_; intro v356 w4 ho5 hb hg_ hnew_; clear hg_ hnew_; (first | rw [← Ny355.out] at ho5 | (simp only [Int.reduceToNat] at ho5; rw [← Ny355.out] at ho5)); have n0_ := Aside0.mk (Kd.R_lower ho5 (kK (by repeat (first | (with_reducible first | exact HB.out | apply kG | apply kD | apply kF) | exact HB.out)))); have n1_ := Aside0.mk (kM (by repeat (first | (with_reducible first | exact HB.out | apply kG | apply kD | apply kF) | exact HB.out)) hb); clear HB; have HO357 := n0_; have HB := n1_; clear n0_ n1_; clear hb ho5)))
    go_loopg [6, 7] k (fun kq v6 v7 w' => ∃ (x5_1 : List Int) (x6_1 : Int) (x7_1 : Int), v6 = .int .u64 x6_1 ∧ v7 = .int .i64 x7_1 ∧ Aside0 (computusref01_less.l0 kq l0 l1 x5_1 x6_1 x7_1 = some r) ∧ Aside0 (kq ≤ k) ∧ Aside0 (Kd.R (Kd.int .u64) 75 w' w.heap.size (fun _ => True) v356 x5_1) ∧ Aside0 (Below w.heap.size w w'))
    case atStart => exact ⟨(y355), (0), (0), (by first | rfl | (simp; done) | (simp [*]; done)), (by first | rfl | (simp; done) | (simp [*]; done)), H', ⟨Nat.le_refl _⟩, ⟨by (with_reducible repeat (first | apply Kd.R_alloc | apply Kd.R_drewN | apply Kd.R_drew)); exact HO357.out⟩, ⟨by repeat (first | (with_reducible first | exact HB.out | apply kG | apply kD | apply kF) | exact HB.out)⟩⟩
    case round =>
      clear H'
      try clear c1
      try clear p2
      try clear c3
      try clear c3b0
      try clear c3b1
      obtain ⟨x5_1, x6_1, x7_1, rfl, rfl, HA, HK1, HO_5, HB⟩ := hrel
      cases gk with
      | zero => exact absurd HA.out (by simp [computusref01_less.l0])
      | succ k1 =>
        have H := HA.out
        clear HA
        simp only [computusref01_less.l0] at H
        by_cases c6 : x7_1 < 6
        · rw [if_pos c6] at H
          have c6b0 : decide (x7_1 < 6) = true := decide_eq_true c6
          clear c6
          by_cases c7 : 0 ≤ x7_1
          · rw [if_pos c7] at H
            have c7b0 : decide (0 ≤ x7_1) = true := decide_eq_true c7
            clear c7
            by_cases c8 : x7_1 < (l0.length : Int)
            · rw [if_pos c8] at H
              have c8b0 : decide (x7_1 < (l0.length : Int)) = true := decide_eq_true c8
              clear c8
              by_cases c9 : x7_1 < (l1.length : Int)
              · rw [if_pos c9] at H
                have c9b0 : decide (x7_1 < (l1.length : Int)) = true := decide_eq_true c9
                clear c9
                by_cases c10 : x7_1 < (x5_1.length : Int)
                · rw [if_pos c10] at H
                  have c10b0 : decide (x7_1 < (x5_1.length : Int)) = true := decide_eq_true c10
                  clear c10
                  obtain ⟨y360, hy360⟩ : ∃ y_ : List Int, y_ = (x5_1.set (x7_1 : Int).toNat (Go.bits .and .u64 (IntKind.u64.wrap ((IntKind.u64.wrap ((IntKind.u64.wrap ((rd l0 x7_1) + 4294967296)) - (rd l1 x7_1))) - x6_1)) 4294967295)) := ⟨_, rfl⟩
                  replace H : (computusref01_less.l0 k1 l0 l1 y360 (IntKind.u64.wrap (1 - ((IntKind.u64.wrap ((IntKind.u64.wrap ((IntKind.u64.wrap ((rd l0 x7_1) + 4294967296)) - (rd l1 x7_1))) - x6_1)) / 4294967296))) (wrap64 (x7_1 + 1))) = some r := by first | (rw [hy360]; with_reducible exact H) | (have H2_ := (Option.bind_some _ _).symm.trans H; rw [hy360]; with_reducible exact H2_) | (have H2_ := (Option.bind_some _ _).symm.trans H; with_reducible exact H2_) | with_reducible exact H | (rw [hy360]; exact H) | exact H
                  have Ny360 := Aside0.mk hy360
                  clear hy360
                  have H' := Aside0.mk H
                  clear H
                  have p358 : 0 ≤ (x7_1 : Int) := of_decide_eq_true (by first | (with_reducible assumption) | assumption)
                  have q358 : x7_1 < (l0.length : Int) := of_decide_eq_true (by first | (with_reducible assumption) | assumption)
                  obtain ⟨ad358, e358, hx358_0⟩ := Kd.at_int HR0.out x7_1 p358 q358
                  cases e358
                  replace hx358_0 := (HB.out.cell (World.block_lt_of_cell? w _ hx358_0)).trans hx358_0
                  replace p358 := eq_true p358
                  replace q358 := eq_true q358
                  have p359 : 0 ≤ (x7_1 : Int) := of_decide_eq_true (by first | (with_reducible assumption) | assumption)
                  have q359 : x7_1 < (l1.length : Int) := of_decide_eq_true (by first | (with_reducible assumption) | assumption)
                  obtain ⟨ad359, e359, hx359_0⟩ := Kd.at_int HR1.out x7_1 p359 q359
                  cases e359
                  replace hx359_0 := (HB.out.cell (World.block_lt_of_cell? w _ hx359_0)).trans hx359_0
                  replace p359 := eq_true p359
                  replace q359 := eq_true q359
                  have p11 : 0 ≤ (x7_1 : Int) := of_decide_eq_true (by first | (with_reducible assumption) | assumption)
                  have q11 : (x7_1 : Int) < ((x5_1.length : Int) : Int) := of_decide_eq_true (by first | (with_reducible assumption) | assumption)
                  obtain ⟨go11, co11, eo11, gb11, gl11, cl11, HG11⟩ := Kd.R_form HO_5.out (by omega)
                  (first | cases eo11 | (injection eo11 with ea_ en_ ec_; (first | subst ea_ | (injection ea_ with ea_; subst ea_)); subst ec_; clear en_))
                  have GB11 := Aside0.mk gb11
                  have GG11 := Aside0.mk HG11
                  clear gb11 gl11 HG11
                  obtain ⟨hx11_0, hf11_0⟩ := Kd.R_celln 0 HO_5.out (x7_1 : Int) p11 q11
                  replace p11 := eq_true p11
                  replace q11 := eq_true q11
                  have HP12 := Kd.R_putg HO_5.out (x7_1 : Int) (Go.bits .and .u64 (IntKind.u64.wrap ((IntKind.u64.wrap ((IntKind.u64.wrap ((rd l0 x7_1) + 4294967296)) - (rd l1 x7_1))) - x6_1)) 4294967295)
                  go_wp2_with (first | ((with_reducible refine gate_store (t := 75) (p := 30) rfl ?_); (try (rw [drewN_self wr]; generalize hq_ : World.drewN wr _ = wr; have n0_ := Aside0.mk (Kd.R_at hq_ HO_5.out); have n1_ := Aside0.mk (below_at hq_ HB.out); clear hq_ HO_5 HB; have HO_5 := n0_; have HB := n1_; clear n0_ n1_; (try (obtain ⟨hxr_, hfr_⟩ := Kd.R_celln 0 HO_5.out (x7_1 : Int) (of_eq_true p11) (of_eq_true q11))); (try (have HP12 := Kd.R_putg HO_5.out (x7_1 : Int) (Go.bits .and .u64 (IntKind.u64.wrap ((IntKind.u64.wrap ((IntKind.u64.wrap ((rd l0 x7_1) + 4294967296)) - (rd l1 x7_1))) - x6_1)) 4294967295))))); refine store_event (t := 75) (p := 30) (v := ?vo_w13) (w1 := (wr.setCell ⟨go11, (x7_1 : Int).toNat, none⟩ (.int .u64 (Go.bits .and .u64 (IntKind.u64.wrap ((IntKind.u64.wrap ((IntKind.u64.wrap ((rd l0 x7_1) + 4294967296)) - (rd l1 x7_1))) - x6_1)) 4294967295)))) ?hg ?ho ?hn ?hr ?_; (case ho => rfl); (case hg => rfl); (case hn => rfl); (case hr => first | (go_simp; done) | (go_simp; rfl)); intro w13 hw; have hg : wr.grownBy w13 (some go11) := (by rw [hw]; exact HP12.2); have hp_ : Kd.R (Kd.int .u64) 75 w13 w.heap.size (fun _ => True) (.slice (some ⟨go11, 0, none⟩) x5_1.length co11) y360 := (by rw [hw, Ny360.out]; exact HP12.1); clear HP12; have n0_ := Aside0.mk (hp_); have n1_ := Aside0.mk ((by rw [hw]; exact kA (HB.out) GB11.out : Below w.heap.size w w13)); clear HO_5; clear HB; have HO_5 := n0_; have HB := n1_; clear n0_ n1_; clear hg hw hp_))
                  repeat (go_quiet (first | ((with_reducible refine gate_store (t := 75) (p := 30) rfl ?_); (try (rw [drewN_self wr]; generalize hq_ : World.drewN wr _ = wr; have n0_ := Aside0.mk (Kd.R_at hq_ HO_5.out); have n1_ := Aside0.mk (below_at hq_ HB.out); clear hq_ HO_5 HB; have HO_5 := n0_; have HB := n1_; clear n0_ n1_; (try (obtain ⟨hxr_, hfr_⟩ := Kd.R_celln 0 HO_5.out (x7_1 : Int) (of_eq_true p11) (of_eq_true q11))); (try (have HP12 := Kd.R_putg HO_5.out (x7_1 : Int) (Go.bits .and .u64 (IntKind.u64.wrap ((IntKind.u64.wrap ((IntKind.u64.wrap ((rd l0 x7_1) + 4294967296)) - (rd l1 x7_1))) - x6_1)) 4294967295))))); refine store_event (t := 75) (p := 30) (v := ?vo_w13) (w1 := (wr.setCell ⟨go11, (x7_1 : Int).toNat, none⟩ (.int .u64 (Go.bits .and .u64 (IntKind.u64.wrap ((IntKind.u64.wrap ((IntKind.u64.wrap ((rd l0 x7_1) + 4294967296)) - (rd l1 x7_1))) - x6_1)) 4294967295)))) ?hg ?ho ?hn ?hr ?_; (case ho => rfl); (case hg => rfl); (case hn => rfl); (case hr => first | (go_simp; done) | (go_simp; rfl)); intro w13 hw; have hg : wr.grownBy w13 (some go11) := (by rw [hw]; exact HP12.2); have hp_ : Kd.R (Kd.int .u64) 75 w13 w.heap.size (fun _ => True) (.slice (some ⟨go11, 0, none⟩) x5_1.length co11) y360 := (by rw [hw, Ny360.out]; exact HP12.1); clear HP12; have n0_ := Aside0.mk (hp_); have n1_ := Aside0.mk ((by rw [hw]; exact kA (HB.out) GB11.out : Below w.heap.size w w13)); clear HO_5; clear HB; have HO_5 := n0_; have HB := n1_; clear n0_ n1_; clear hg hw hp_)); try go_wp2_with (first | ((with_reducible refine gate_store (t := 75) (p := 30) rfl ?_); (try (rw [drewN_self wr]; generalize hq_ : World.drewN wr _ = wr; have n0_ := Aside0.mk (Kd.R_at hq_ HO_5.out); have n1_ := Aside0.mk (below_at hq_ HB.out); clear hq_ HO_5 HB; have HO_5 := n0_; have HB := n1_; clear n0_ n1_; (try (obtain ⟨hxr_, hfr_⟩ := Kd.R_celln 0 HO_5.out (x7_1 : Int) (of_eq_true p11) (of_eq_true q11))); (try (have HP12 := Kd.R_putg HO_5.out (x7_1 : Int) (Go.bits .and .u64 (IntKind.u64.wrap ((IntKind.u64.wrap ((IntKind.u64.wrap ((rd l0 x7_1) + 4294967296)) - (rd l1 x7_1))) - x6_1)) 4294967295))))); refine store_event (t := 75) (p := 30) (v := ?vo_w13) (w1 := (wr.setCell ⟨go11, (x7_1 : Int).toNat, none⟩ (.int .u64 (Go.bits .and .u64 (IntKind.u64.wrap ((IntKind.u64.wrap ((IntKind.u64.wrap ((rd l0 x7_1) + 4294967296)) - (rd l1 x7_1))) - x6_1)) 4294967295)))) ?hg ?ho ?hn ?hr ?_; (case ho => rfl); (case hg => rfl); (case hn => rfl); (case hr => first | (go_simp; done) | (go_simp; rfl)); intro w13 hw; have hg : wr.grownBy w13 (some go11) := (by rw [hw]; exact HP12.2); have hp_ : Kd.R (Kd.int .u64) 75 w13 w.heap.size (fun _ => True) (.slice (some ⟨go11, 0, none⟩) x5_1.length co11) y360 := (by rw [hw, Ny360.out]; exact HP12.1); clear HP12; have n0_ := Aside0.mk (hp_); have n1_ := Aside0.mk ((by rw [hw]; exact kA (HB.out) GB11.out : Below w.heap.size w w13)); clear HO_5; clear HB; have HO_5 := n0_; have HB := n1_; clear n0_ n1_; clear hg hw hp_)))
                  go_roundg k1
                  case measure => have := HK1.out; omega
                  case rel => exact ⟨(y360), (IntKind.u64.wrap (1 - ((IntKind.u64.wrap ((IntKind.u64.wrap ((IntKind.u64.wrap ((rd l0 x7_1) + 4294967296)) - (rd l1 x7_1))) - x6_1)) / 4294967296))), (wrap64 (x7_1 + 1)), (by first | rfl | (simp; done) | (simp [*]; done)), (by first | rfl | (simp; done) | (simp [*]; done)), H', ⟨by have := HK1.out; omega⟩, ⟨by (with_reducible repeat (first | apply Kd.R_alloc | apply Kd.R_drewN | apply Kd.R_drew)); exact HO_5.out⟩, ⟨by repeat (first | (with_reducible first | exact HB.out | apply kG | apply kD | apply kF) | exact HB.out)⟩⟩
                · rw [if_neg c10] at H
                  exact absurd H (by simp)
              · rw [if_neg c9] at H
                exact absurd H (by simp)
            · rw [if_neg c8] at H
              exact absurd H (by simp)
          · rw [if_neg c7] at H
            exact absurd H (by simp)
        · rw [if_neg c6] at H
          have c6b0 : decide (x7_1 < 6) = false := decide_eq_false c6
          clear c6
          obtain rfl := Option.some.inj H
          go_wp2
          repeat (go_quiet (fail); try go_wp2)
          go_ret
          exact ⟨_, by first | rfl | (simp [errW_none, errW_some] <;> rfl) | (simp [*, errW_none, errW_some] <;> rfl), by (with_reducible repeat (first | apply Kd.R_alloc | apply Kd.R_drewN | apply Kd.R_drew)); exact HO_5.out, by repeat (first | (with_reducible first | exact HB.out | apply kG | apply kD | apply kF) | exact HB.out)⟩
  · rw [if_neg c3] at H
    exact absurd H (by simp)
end Go.Proofs.Ytgjbdojpncmmlaa.P
