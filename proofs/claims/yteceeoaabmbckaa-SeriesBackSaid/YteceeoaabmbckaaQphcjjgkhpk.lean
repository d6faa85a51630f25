-- Written by a program of the session (a print of the seat's translation, functions given by hand among it). Lean checks it.
import Derived.Test.YteceeoaabmbckaaQbfjbbbgbaa
namespace Go.Proofs.Yteceeoaabmbckaa.P
open Go.RowKit Go.Proofs.YteceeoaabmbckaaW.PrintWords Go.Proofs.YteceeoaabmbckaaW.PrintLast Go.Proofs.YteceeoaabmbckaaW.PrintMore
attribute [local go_sem] max2_int min2_int max_two min_two max_three min_three max_four min_four   -- for this text's walks alone
set_option linter.unusedVariables false
set_option linter.unusedSimpArgs false
mutual
def computuslaw21_SeriesBack.j0 : Nat → Int → Int → Int → List Int → Bool → Option (Bool)
  | 0, _, _, _, _, _ => none
  | k + 1, x0, x2, x3, x9, x32 => if x32 = true then ((computuslaw21_known.f).bind fun t453 => (some t453)) else (if 0 ≤ (wrap64 ((x9.length : Int) - 1)) then (if (wrap64 ((x9.length : Int) - 1)) < (x9.length : Int) then ((series_Ints.f k (rd x9 (wrap64 ((x9.length : Int) - 1))) x0 (wrap64 (-x2)) x3).bind fun bt455 => (if bt455.2 = 0 then (computuslaw21_SeriesBack.j1 k x9 bt455.1 ((bt455.1.length : Int) != (x9.length : Int))) else (computuslaw21_SeriesBack.j1 k x9 bt455.1 true))) else (none)) else (none))
def computuslaw21_SeriesBack.j1 : Nat → List Int → List Int → Bool → Option (Bool)
  | 0, _, _, _ => none
  | k + 1, x9, x11, x56 => if x56 = true then (some false) else (computuslaw21_SeriesBack.l0 k x9 x11 0)
def computuslaw21_SeriesBack.l0 : Nat → List Int → List Int → Int → Option (Bool)
  | 0, _, _, _ => none
  | k + 1, x9, x11, x13 => if x13 < (x9.length : Int) then (if 0 ≤ (wrap64 ((wrap64 ((x11.length : Int) - 1)) - x13)) then (if (wrap64 ((wrap64 ((x11.length : Int) - 1)) - x13)) < (x11.length : Int) then (if 0 ≤ x13 then (if (rd x11 (wrap64 ((wrap64 ((x11.length : Int) - 1)) - x13))) = (rd x9 x13) then (computuslaw21_SeriesBack.l0 k x9 x11 (wrap64 (x13 + 1))) else (some false)) else (none)) else (none)) else (none)) else ((computuslaw21_known.f).bind fun t461 => (some t461))
end
def computuslaw21_SeriesBack.f (k : Nat) (a0 : Int) (a1 : Int) (a2 : Int) (a3 : Int) : Option (Bool) := (series_Ints.f k a0 a1 a2 a3).bind fun bt449 => (if bt449.2 = 0 then (if (bt449.1.length : Int) = 0 then (computuslaw21_SeriesBack.j0 k a0 a2 a3 bt449.1 true) else (computuslaw21_SeriesBack.j0 k a0 a2 a3 bt449.1 (a2 == (-9223372036854775808)))) else (computuslaw21_SeriesBack.j0 k a0 a2 a3 bt449.1 true))
set_option maxHeartbeats 8000000 in
set_option maxRecDepth 100000 in
theorem computuslaw21_SeriesBack.calls (k : Nat) (a0 : Int) (a1 : Int) (a2 : Int) (a3 : Int) (r : Bool) (w : World) (h : computuslaw21_SeriesBack.f k a0 a1 a2 a3 = some r) (hR : r = true) :
    Calls Try.prog 4 #[.int .i64 a0, .int .i64 a1, .int .i64 a2, .int .i64 a3] w fun e w' => e = .returned (.bool r) ∧ Below w.heap.size w w' := by
  have HRT := Aside0.mk hR
  clear hR
  have HB := Aside0.mk (Below.refl w.heap.size w)
  have H : ((series_Ints.f k a0 a1 a2 a3).bind fun bt449 => (if bt449.2 = 0 then (if (bt449.1.length : Int) = 0 then (computuslaw21_SeriesBack.j0 k a0 a2 a3 bt449.1 true) else (computuslaw21_SeriesBack.j0 k a0 a2 a3 bt449.1 (a2 == (-9223372036854775808)))) else (computuslaw21_SeriesBack.j0 k a0 a2 a3 bt449.1 true))) = some r := h
  clear h
  replace H := Option.bind_eq_some_iff.mp H
  obtain ⟨⟨t449, t450⟩, A50, H⟩ := H
  replace H : (if t450 = 0 then (if (t449.length : Int) = 0 then (computuslaw21_SeriesBack.j0 k a0 a2 a3 t449 true) else (computuslaw21_SeriesBack.j0 k a0 a2 a3 t449 (a2 == (-9223372036854775808)))) else (computuslaw21_SeriesBack.j0 k a0 a2 a3 t449 true)) = some r := H
  have A5 := Aside0.mk A50
  clear A50
  have HC6 := Aside0.mk H
  clear H
  go_enter Try.func4, Try.ntmps4
  go_upto_region 2 with (first | (go_at_call 5; (with_reducible refine (series_Ints.calls k a0 a1 a2 a3 t449 t450 _ A5.out).mono ?_); rintro e w7 ⟨v451, rfl, ho0, hb⟩; have n0_ := Aside0.mk (Kd.R_lower ho0 (below_size (by repeat (first | (with_reducible first | exact HB.out | apply below_alloc | apply kA | apply below_drew1) | exact HB.out)))); have n1_ := Aside0.mk (below_step (by repeat (first | (with_reducible first | exact HB.out | apply below_alloc | apply kA | apply below_drew1) | exact HB.out)) hb); clear HB; have HO452 := n0_; have HB := n1_; clear n0_ n1_; (try clear hb); (try clear hb2); (try clear hk); (try clear hi); (try clear ho0)))
  repeat (go_quiet (first | (go_at_call 5; (with_reducible refine (series_Ints.calls k a0 a1 a2 a3 t449 t450 _ A5.out).mono ?_); rintro e w7 ⟨v451, rfl, ho0, hb⟩; have n0_ := Aside0.mk (Kd.R_lower ho0 (below_size (by repeat (first | (with_reducible first | exact HB.out | apply below_alloc | apply kA | apply below_drew1) | exact HB.out)))); have n1_ := Aside0.mk (below_step (by repeat (first | (with_reducible first | exact HB.out | apply below_alloc | apply kA | apply below_drew1) | exact HB.out)) hb); clear HB; have HO452 := n0_; have HB := n1_; clear n0_ n1_; (try clear hb); (try clear hb2); (try clear hk); (try clear hi); (try clear ho0))); go_upto_region 2 with (first | (go_at_call 5; (with_reducible refine (series_Ints.calls k a0 a1 a2 a3 t449 t450 _ A5.out).mono ?_); rintro e w7 ⟨v451, rfl, ho0, hb⟩; have n0_ := Aside0.mk (Kd.R_lower ho0 (below_size (by repeat (first | (with_reducible first | exact HB.out | apply below_alloc | apply kA | apply below_drew1) | exact HB.out)))); have n1_ := Aside0.mk (below_step (by repeat (first | (with_reducible first | exact HB.out | apply below_alloc | apply kA | apply below_drew1) | exact HB.out)) hb); clear HB; have HO452 := n0_; have HB := n1_; clear n0_ n1_; (try clear hb); (try clear hb2); (try clear hk); (try clear hi); (try clear ho0))))
  (try simp only [Act.put, List.setIfInBounds_toArray, List.set_cons_zero, List.set_cons_succ])
  go_cut [32] (fun v32 wc => ∃ (kq : Nat) (x32_5 : Bool), v32 = .bool x32_5 ∧ Aside0 (computuslaw21_SeriesBack.j0 kq a0 a2 a3 t449 x32_5 = some r) ∧ Aside0 (kq ≤ k) ∧ Aside0 (Kd.R (Kd.int .i64) 2 wc w.heap.size (fun _ => True) v451 t449) ∧ Aside0 (Below w.heap.size w wc))
  case first =>
    have H := HC6.out
    clear HC6
    by_cases c8 : t450 = 0
    · rw [if_pos c8] at H
      have c8b0 : (t450 == 0) = true := beq_iff_eq.mpr c8
      have c8b1 : (t450 != 0) = false := bne_eq_false_iff_eq.mpr c8
      clear c8
      (first | rw [c8b0] | (simp only [i64_w, i32_w]; rw [c8b0]) | skip)
      by_cases c9 : (t449.length : Int) = 0
      · rw [if_pos c9] at H
        have c9b0 : ((t449.length : Int) == 0) = true := beq_iff_eq.mpr c9
        have c9b1 : ((t449.length : Int) != 0) = false := bne_eq_false_iff_eq.mpr c9
        clear c9
        have H' := Aside0.mk H
        clear H
        obtain ⟨Ao10, co10, eo10⟩ := Kd.R_slice HO452.out
        subst eo10
        go_wp2
        repeat (go_quiet (fail); try go_wp2)
        go_meet
        case rel => exact ⟨_, (true), (by first | rfl | (simp; done) | (simp [*]; done)), H', ⟨by first | omega | exact Nat.le_refl _⟩, ⟨by (with_reducible repeat (first | apply Kd.R_alloc | apply Kd.R_drewN | apply Kd.R_drew)); exact HO452.out⟩, ⟨by repeat (first | (with_reducible first | exact HB.out | apply below_alloc | apply kA | apply below_drew1) | exact HB.out)⟩⟩
      · rw [if_neg c9] at H
        have c9b0 : ((t449.length : Int) == 0) = false := beq_eq_false_iff_ne.mpr c9
        have c9b1 : ((t449.length : Int) != 0) = true := bne_iff_ne.mpr c9
        have c9b2 : ¬ (t449 = []) := fun h_ => c9 (by rw [h_]; rfl)
        have H' := Aside0.mk H
        clear H
        obtain ⟨Ao11, co11, eo11⟩ := Kd.R_slice HO452.out
        subst eo11
        go_wp2
        repeat (go_quiet (fail); try go_wp2)
        go_meet
        case rel => exact ⟨_, ((a2 == (-9223372036854775808))), (by first | rfl | (simp; done) | (simp [*]; done)), H', ⟨by first | omega | exact Nat.le_refl _⟩, ⟨by (with_reducible repeat (first | apply Kd.R_alloc | apply Kd.R_drewN | apply Kd.R_drew)); exact HO452.out⟩, ⟨by repeat (first | (with_reducible first | exact HB.out | apply below_alloc | apply kA | apply below_drew1) | exact HB.out)⟩⟩
    · rw [if_neg c8] at H
      have c8b0 : (t450 == 0) = false := beq_eq_false_iff_ne.mpr c8
      have c8b1 : (t450 != 0) = true := bne_iff_ne.mpr c8
      (first | rw [c8b0] | (simp only [i64_w, i32_w]; rw [c8b0]) | skip)
      have H' := Aside0.mk H
      clear H
      go_wp2
      repeat (go_quiet (fail); try go_wp2)
      go_meet
      case rel => exact ⟨_, (true), (by first | rfl | (simp; done) | (simp [*]; done)), H', ⟨by first | omega | exact Nat.le_refl _⟩, ⟨by (with_reducible repeat (first | apply Kd.R_alloc | apply Kd.R_drewN | apply Kd.R_drew)); exact HO452.out⟩, ⟨by repeat (first | (with_reducible first | exact HB.out | apply below_alloc | apply kA | apply below_drew1) | exact HB.out)⟩⟩
  case rest =>
    clear HC6
    try clear p2
    try clear c4
    try clear c8
    try clear c8b0
    try clear c8b1
    try clear c9
    try clear c9b0
    try clear c9b1
    try clear c9b2
    obtain ⟨kq, x32_5, rfl, HA, HJ5, HO_9, HB⟩ := hcut
    cases kq with
    | zero => exact absurd HA.out (by simp [computuslaw21_SeriesBack.j0])
    | succ kj5 =>
      have H := HA.out
      clear HA
      simp only [computuslaw21_SeriesBack.j0] at H
      by_cases c12 : x32_5 = true
      · subst c12
        have H1 : ((computuslaw21_known.f).bind fun t453 => (some t453)) = some r := by rw [if_pos rfl] at H; exact H
        clear H
        have H := H1
        clear H1
        replace H := Option.bind_eq_some_iff.mp H
        obtain ⟨t453, A130, H⟩ := H
        replace H : (some t453) = some r := H
        have A13 := Aside0.mk A130
        clear A130
        obtain rfl := Option.some.inj H
        go_wp2_with (first | (go_at_call 10; (with_reducible refine (computuslaw21_known.calls  t453 _ A13.out HRT.out).mono ?_); rintro e w14 ⟨rfl, hb⟩; have n0_ := Aside0.mk (Kd.R_below (by (with_reducible repeat (first | apply Kd.R_alloc | apply Kd.R_drewN | apply Kd.R_drew)); exact HO_9.out) hb); have n1_ := Aside0.mk (below_step (by repeat (first | (with_reducible first | exact HB.out | apply below_alloc | apply kA | apply below_drew1) | exact HB.out)) hb); clear HO_9; clear HB; have HO_9 := n0_; have HB := n1_; clear n0_ n1_; (try clear hb); (try clear hb2); (try clear hk); (try clear hi)))
        repeat (go_quiet (first | (go_at_call 10; (with_reducible refine (computuslaw21_known.calls  t453 _ A13.out HRT.out).mono ?_); rintro e w14 ⟨rfl, hb⟩; have n0_ := Aside0.mk (Kd.R_below (by (with_reducible repeat (first | apply Kd.R_alloc | apply Kd.R_drewN | apply Kd.R_drew)); exact HO_9.out) hb); have n1_ := Aside0.mk (below_step (by repeat (first | (with_reducible first | exact HB.out | apply below_alloc | apply kA | apply below_drew1) | exact HB.out)) hb); clear HO_9; clear HB; have HO_9 := n0_; have HB := n1_; clear n0_ n1_; (try clear hb); (try clear hb2); (try clear hk); (try clear hi))); try go_wp2_with (first | (go_at_call 10; (with_reducible refine (computuslaw21_known.calls  t453 _ A13.out HRT.out).mono ?_); rintro e w14 ⟨rfl, hb⟩; have n0_ := Aside0.mk (Kd.R_below (by (with_reducible repeat (first | apply Kd.R_alloc | apply Kd.R_drewN | apply Kd.R_drew)); exact HO_9.out) hb); have n1_ := Aside0.mk (below_step (by repeat (first | (with_reducible first | exact HB.out | apply below_alloc | apply kA | apply below_drew1) | exact HB.out)) hb); clear HO_9; clear HB; have HO_9 := n0_; have HB := n1_; clear n0_ n1_; (try clear hb); (try clear hb2); (try clear hk); (try clear hi))))
        go_ret
        exact ⟨by first | rfl | (simp [errW_none, errW_some] <;> rfl) | (simp [*, errW_none, errW_some] <;> rfl), by repeat (first | (with_reducible first | exact HB.out | apply below_alloc | apply kA | apply below_drew1) | exact HB.out)⟩
      · replace c12 := Bool.eq_false_iff.mpr c12
        subst c12
        have H1 : (if 0 ≤ (wrap64 ((t449.length : Int) - 1)) then (if (wrap64 ((t449.length : Int) - 1)) < (t449.length : Int) then ((series_Ints.f kj5 (rd t449 (wrap64 ((t449.length : Int) - 1))) a0 (wrap64 (-a2)) a3).bind fun bt455 => (if bt455.2 = 0 then (computuslaw21_SeriesBack.j1 kj5 t449 bt455.1 ((bt455.1.length : Int) != (t449.length : Int))) else (computuslaw21_SeriesBack.j1 kj5 t449 bt455.1 true))) else (none)) else (none)) = some r := by rw [if_neg (show ¬ (false = true) by decide)] at H; exact H
        clear H
        have H := H1
        clear H1
        obtain ⟨ji15, hji15⟩ : ∃ j_ : Int, (wrap64 ((t449.length : Int) - 1)) = j_ := ⟨_, rfl⟩
        replace H : (if 0 ≤ (ji15) then (if (ji15) < (t449.length : Int) then ((series_Ints.f kj5 (rd t449 (ji15)) a0 (wrap64 (-a2)) a3).bind fun bt455 => (if bt455.2 = 0 then (computuslaw21_SeriesBack.j1 kj5 t449 bt455.1 ((bt455.1.length : Int) != (t449.length : Int))) else (computuslaw21_SeriesBack.j1 kj5 t449 bt455.1 true))) else (none)) else (none)) = some r := by first | (rw [hji15] at H; exact H) | (simp only [hji15] at H ⊢; exact H)
        have hji15w : (IntKind.i64.wrap ((t449.length : Int) - 1)) = ji15 := (i64_w _).trans hji15
        by_cases c16 : 0 ≤ (ji15)
        · rw [if_pos c16] at H
          have c16b0 : decide (0 ≤ (ji15)) = true := decide_eq_true c16
          clear c16
          by_cases c17 : (ji15) < (t449.length : Int)
          · rw [if_pos c17] at H
            have c17b0 : decide ((ji15) < (t449.length : Int)) = true := decide_eq_true c17
            clear c17
            replace H := Option.bind_eq_some_iff.mp H
            obtain ⟨⟨t455, t456⟩, A180, H⟩ := H
            replace H : (if t456 = 0 then (computuslaw21_SeriesBack.j1 kj5 t449 t455 ((t455.length : Int) != (t449.length : Int))) else (computuslaw21_SeriesBack.j1 kj5 t449 t455 true)) = some r := H
            have A18 := Aside0.mk A180
            clear A180
            have HC19 := Aside0.mk H
            clear H
            obtain ⟨Ao20, co20, eo20⟩ := Kd.R_slice HO_9.out
            subst eo20
            have p454 : 0 ≤ ((ji15) : Int) := of_decide_eq_true (by first | (with_reducible assumption) | assumption)
            have q454 : (ji15) < (t449.length : Int) := of_decide_eq_true (by first | (with_reducible assumption) | assumption)
            obtain ⟨ad454, e454, hx454_0⟩ := Kd.at_int (Kd.R_reads' HO_9.out).2.2 (ji15) p454 q454
            cases e454
            replace p454 := eq_true p454
            replace q454 := eq_true q454
            go_upto_region 5 with (first | (go_at_call 5; (with_reducible refine (series_Ints.calls kj5 (rd t449 (ji15)) a0 (wrap64 (-a2)) a3 t455 t456 _ A18.out).mono ?_); rintro e w21 ⟨v457, rfl, ho0, hb⟩; have n0_ := Aside0.mk (Kd.R_elder' (by (with_reducible repeat (first | apply Kd.R_alloc | apply Kd.R_drewN | apply Kd.R_drew)); exact HO_9.out) (Kd.R_base ho0) hb); have n1_ := Aside0.mk (Kd.R_lower (Kd.R_new' ho0 (Kd.R_lt (by (with_reducible repeat (first | apply Kd.R_alloc | apply Kd.R_drewN | apply Kd.R_drew)); exact HO_9.out))) (below_size (by repeat (first | (with_reducible first | exact HB.out | apply below_alloc | apply kA | apply below_drew1) | exact HB.out)))); have n2_ := Aside0.mk (below_step (by repeat (first | (with_reducible first | exact HB.out | apply below_alloc | apply kA | apply below_drew1) | exact HB.out)) hb); clear HO_9; clear HB; have HO_9 := n0_; have HO458 := n1_; have HB := n2_; clear n0_ n1_ n2_; (try clear hb); (try clear hb2); (try clear hk); (try clear hi); (try clear ho0)))
            repeat (go_quiet (first | (go_at_call 5; (with_reducible refine (series_Ints.calls kj5 (rd t449 (ji15)) a0 (wrap64 (-a2)) a3 t455 t456 _ A18.out).mono ?_); rintro e w21 ⟨v457, rfl, ho0, hb⟩; have n0_ := Aside0.mk (Kd.R_elder' (by (with_reducible repeat (first | apply Kd.R_alloc | apply Kd.R_drewN | apply Kd.R_drew)); exact HO_9.out) (Kd.R_base ho0) hb); have n1_ := Aside0.mk (Kd.R_lower (Kd.R_new' ho0 (Kd.R_lt (by (with_reducible repeat (first | apply Kd.R_alloc | apply Kd.R_drewN | apply Kd.R_drew)); exact HO_9.out))) (below_size (by repeat (first | (with_reducible first | exact HB.out | apply below_alloc | apply kA | apply below_drew1) | exact HB.out)))); have n2_ := Aside0.mk (below_step (by repeat (first | (with_reducible first | exact HB.out | apply below_alloc | apply kA | apply below_drew1) | exact HB.out)) hb); clear HO_9; clear HB; have HO_9 := n0_; have HO458 := n1_; have HB := n2_; clear n0_ n1_ n2_; (try clear hb); (try clear hb2); (try clear hk); (try clear hi); (try clear ho0))); go_upto_region 5 with (first | (go_at_call 5; (with_reducible refine (series_Ints.calls kj5 (rd t449 (ji15)) a0 (wrap64 (-a2)) a3 t455 t456 _ A18.out).mono ?_); rintro e w21 ⟨v457, rfl, ho0, hb⟩; have n0_ := Aside0.mk (Kd.R_elder' (by (with_reducible repeat (first | apply Kd.R_alloc | apply Kd.R_drewN | apply Kd.R_drew)); exact HO_9.out) (Kd.R_base ho0) hb); have n1_ := Aside0.mk (Kd.R_lower (Kd.R_new' ho0 (Kd.R_lt (by (with_reducible repeat (first | apply Kd.R_alloc | apply Kd.R_drewN | apply Kd.R_drew)); exact HO_9.out))) (below_size (by repeat (first | (with_reducible first | exact HB.out | apply below_alloc | apply kA | apply below_drew1) | exact HB.out)))); have n2_ := Aside0.mk (below_step (by repeat (first | (with_reducible first | exact HB.out | apply below_alloc | apply kA | apply below_drew1) | exact HB.out)) hb); clear HO_9; clear HB; have HO_9 := n0_; have HO458 := n1_; have HB := n2_; clear n0_ n1_ n2_; (try clear hb); (try clear hb2); (try clear hk); (try clear hi); (try clear ho0))))
            (try simp only [Act.put, List.setIfInBounds_toArray, List.set_cons_zero, List.set_cons_succ])
            go_cut [56] (fun v56 wc => ∃ (kq : Nat) (x56_18 : Bool), v56 = .bool x56_18 ∧ Aside0 (computuslaw21_SeriesBack.j1 kq t449 t455 x56_18 = some r) ∧ Aside0 (kq ≤ kj5) ∧ Aside0 (Kd.R (Kd.int .i64) 2 wc w.heap.size (fun k_ => some k_ ≠ (v457 : Value).ownBlock) (.slice (some ad454) t449.length co20) t449) ∧ Aside0 (Kd.R (Kd.int .i64) 2 wc w.heap.size (fun k_ => some k_ ≠ ((.slice (some ad454) t449.length co20) : Value).ownBlock) v457 t455) ∧ Aside0 (Below w.heap.size w wc))
            case first =>
              have H := HC19.out
              clear HC19
              by_cases c22 : t456 = 0
              · rw [if_pos c22] at H
                have c22b0 : (t456 == 0) = true := beq_iff_eq.mpr c22
                have c22b1 : (t456 != 0) = false := bne_eq_false_iff_eq.mpr c22
                clear c22
                (first | rw [c22b0] | (simp only [i64_w, i32_w]; rw [c22b0]) | skip)
                have H' := Aside0.mk H
                clear H
                obtain ⟨Ao23, co23, eo23⟩ := Kd.R_slice HO458.out
                subst eo23
                go_wp2
                repeat (go_quiet (fail); try go_wp2)
                go_meet
                case rel => exact ⟨_, (((t455.length : Int) != (t449.length : Int))), (by first | rfl | (simp; done) | (simp [*]; done)), H', ⟨by have := HJ5.out; first | omega | exact Nat.le_refl _⟩, ⟨by (with_reducible repeat (first | apply Kd.R_alloc | apply Kd.R_drewN | apply Kd.R_drew)); exact Kd.R_mono HO_9.out (fun _ hk => hk.2)⟩, ⟨by (with_reducible repeat (first | apply Kd.R_alloc | apply Kd.R_drewN | apply Kd.R_drew)); exact Kd.R_mono HO458.out (fun _ hk => hk.2)⟩, ⟨by repeat (first | (with_reducible first | exact HB.out | apply below_alloc | apply kA | apply below_drew1) | exact HB.out)⟩⟩
              · rw [if_neg c22] at H
                have c22b0 : (t456 == 0) = false := beq_eq_false_iff_ne.mpr c22
                have c22b1 : (t456 != 0) = true := bne_iff_ne.mpr c22
                (first | rw [c22b0] | (simp only [i64_w, i32_w]; rw [c22b0]) | skip)
                have H' := Aside0.mk H
                clear H
                go_wp2
                repeat (go_quiet (fail); try go_wp2)
                go_meet
                case rel => exact ⟨_, (true), (by first | rfl | (simp; done) | (simp [*]; done)), H', ⟨by have := HJ5.out; first | omega | exact Nat.le_refl _⟩, ⟨by (with_reducible repeat (first | apply Kd.R_alloc | apply Kd.R_drewN | apply Kd.R_drew)); exact Kd.R_mono HO_9.out (fun _ hk => hk.2)⟩, ⟨by (with_reducible repeat (first | apply Kd.R_alloc | apply Kd.R_drewN | apply Kd.R_drew)); exact Kd.R_mono HO458.out (fun _ hk => hk.2)⟩, ⟨by repeat (first | (with_reducible first | exact HB.out | apply below_alloc | apply kA | apply below_drew1) | exact HB.out)⟩⟩
            case rest =>
              clear HC19
              try clear c1
              try clear c2
              try clear p2
              try clear c4
              try clear p4
              try clear q4
              try clear hx4
              try clear p6
              try clear c8
              try clear c8b0
              try clear c8b1
              try clear c9
              try clear c9b0
              try clear c9b1
              try clear c9b2
              try clear c12
              try clear c16
              try clear c16b0
              try clear c17
              try clear c17b0
              try clear c22
              try clear c22b0
              try clear c22b1
              try clear hx454_0
              try clear p2
              try clear p454
              try clear q454
              obtain ⟨kq, x56_18, rfl, HA, HJ18, HO_9, HO_11, HB⟩ := hcut
              cases kq with
              | zero => exact absurd HA.out (by simp [computuslaw21_SeriesBack.j1])
              | succ kj18 =>
                have H := HA.out
                clear HA
                simp only [computuslaw21_SeriesBack.j1] at H
                by_cases c24 : x56_18 = true
                · subst c24
                  have H1 : (some false) = some r := by rw [if_pos rfl] at H; exact H
                  clear H
                  have H := H1
                  clear H1
                  exact absurd (Option.some.inj H) (by rw [HRT.out]; decide)
                · replace c24 := Bool.eq_false_iff.mpr c24
                  subst c24
                  have H1 : (computuslaw21_SeriesBack.l0 kj18 t449 t455 0) = some r := by rw [if_neg (show ¬ (false = true) by decide)] at H; exact H
                  clear H
                  have H := H1
                  clear H1
                  have H' := Aside0.mk H
                  clear H
                  go_wp2
                  repeat (go_quiet (fail); try go_wp2)
                  go_loopg [13] kj18 (fun kq v13 w' => ∃ (x13_3 : Int), v13 = .int .i64 x13_3 ∧ Aside0 (computuslaw21_SeriesBack.l0 kq t449 t455 x13_3 = some r) ∧ Aside0 (kq ≤ kj18) ∧ Aside0 (Kd.R (Kd.int .i64) 2 w' w.heap.size (fun k_ => some k_ ≠ (v457 : Value).ownBlock) (.slice (some ad454) t449.length co20) t449) ∧ Aside0 (Kd.R (Kd.int .i64) 2 w' w.heap.size (fun k_ => some k_ ≠ ((.slice (some ad454) t449.length co20) : Value).ownBlock) v457 t455) ∧ Aside0 (Below w.heap.size w w'))
                  case atStart => exact ⟨(0), (by first | rfl | (simp; done) | (simp [*]; done)), H', ⟨Nat.le_refl _⟩, ⟨by (with_reducible repeat (first | apply Kd.R_alloc | apply Kd.R_drewN | apply Kd.R_drew)); exact HO_9.out⟩, ⟨by (with_reducible repeat (first | apply Kd.R_alloc | apply Kd.R_drewN | apply Kd.R_drew)); exact HO_11.out⟩, ⟨by repeat (first | (with_reducible first | exact HB.out | apply below_alloc | apply kA | apply below_drew1) | exact HB.out)⟩⟩
                  case round =>
                    clear H'
                    try clear c1
                    try clear c2
                    try clear p2
                    try clear c4
                    try clear p4
                    try clear q4
                    try clear hx4
                    try clear p6
                    try clear c8
                    try clear c8b0
                    try clear c8b1
                    try clear c9
                    try clear c9b0
                    try clear c9b1
                    try clear c9b2
                    try clear c12
                    try clear c16
                    try clear c16b0
                    try clear c17
                    try clear c17b0
                    try clear c22
                    try clear c22b0
                    try clear c22b1
                    try clear c24
                    try clear hx454_0
                    try clear p2
                    try clear p4
                    try clear p454
                    try clear p6
                    try clear q4
                    try clear q454
                    obtain ⟨x13_3, rfl, HA, HK3, HO_9, HO_11, HB⟩ := hrel
                    cases gk with
                    | zero => exact absurd HA.out (by simp [computuslaw21_SeriesBack.l0])
                    | succ k3 =>
                      have H := HA.out
                      clear HA
                      simp only [computuslaw21_SeriesBack.l0] at H
                      by_cases c25 : x13_3 < (t449.length : Int)
                      · rw [if_pos c25] at H
                        have c25b0 : decide (x13_3 < (t449.length : Int)) = true := decide_eq_true c25
                        clear c25
                        obtain ⟨ji26, hji26⟩ : ∃ j_ : Int, (wrap64 ((wrap64 ((t455.length : Int) - 1)) - x13_3)) = j_ := ⟨_, rfl⟩
                        replace H : (if 0 ≤ (ji26) then (if (ji26) < (t455.length : Int) then (if 0 ≤ x13_3 then (if (rd t455 (ji26)) = (rd t449 x13_3) then (computuslaw21_SeriesBack.l0 k3 t449 t455 (wrap64 (x13_3 + 1))) else (some false)) else (none)) else (none)) else (none)) = some r := by first | (rw [hji26] at H; exact H) | (simp only [hji26] at H ⊢; exact H)
                        have hji26w : (IntKind.i64.wrap ((wrap64 ((t455.length : Int) - 1)) - x13_3)) = ji26 := (i64_w _).trans hji26
                        by_cases c27 : 0 ≤ (ji26)
                        · rw [if_pos c27] at H
                          have c27b0 : decide (0 ≤ (ji26)) = true := decide_eq_true c27
                          clear c27
                          by_cases c28 : (ji26) < (t455.length : Int)
                          · rw [if_pos c28] at H
                            have c28b0 : decide ((ji26) < (t455.length : Int)) = true := decide_eq_true c28
                            clear c28
                            by_cases c29 : 0 ≤ x13_3
                            · rw [if_pos c29] at H
                              have c29b0 : decide (0 ≤ x13_3) = true := decide_eq_true c29
                              clear c29
                              by_cases c30 : (rd t455 (ji26)) = (rd t449 x13_3)
                              · rw [if_pos c30] at H
                                have c30b0 : ((rd t455 (ji26)) == (rd t449 x13_3)) = true := beq_iff_eq.mpr c30
                                have c30b1 : ((rd t455 (ji26)) != (rd t449 x13_3)) = false := bne_eq_false_iff_eq.mpr c30
                                clear c30
                                have H' := Aside0.mk H
                                clear H
                                obtain ⟨Ao31, co31, eo31⟩ := Kd.R_slice HO_11.out
                                subst eo31
                                have p459 : 0 ≤ ((ji26) : Int) := of_decide_eq_true (by first | (with_reducible assumption) | assumption)
                                have q459 : (ji26) < (t455.length : Int) := of_decide_eq_true (by first | (with_reducible assumption) | assumption)
                                obtain ⟨ad459, e459, hx459_0⟩ := Kd.at_int (Kd.R_reads' HO_11.out).2.2 (ji26) p459 q459
                                cases e459
                                replace p459 := eq_true p459
                                replace q459 := eq_true q459
                                have p460 : 0 ≤ (x13_3 : Int) := of_decide_eq_true (by first | (with_reducible assumption) | assumption)
                                have q460 : x13_3 < (t449.length : Int) := of_decide_eq_true (by first | (with_reducible assumption) | assumption)
                                obtain ⟨ad460, e460, hx460_0⟩ := Kd.at_int (Kd.R_reads' HO_9.out).2.2 x13_3 p460 q460
                                obtain rfl : ad454 = ad460 := (by injection e460)
                                replace p460 := eq_true p460
                                replace q460 := eq_true q460
                                go_wp2
                                repeat (go_quiet (fail); try go_wp2)
                                go_roundg k3
                                case measure => have := HJ5.out; have := HJ18.out; have := HK3.out; omega
                                case rel => exact ⟨(wrap64 (x13_3 + 1)), (by first | rfl | (simp; done) | (simp [*]; done)), H', ⟨by have := HJ5.out; have := HJ18.out; have := HK3.out; omega⟩, ⟨by (with_reducible repeat (first | apply Kd.R_alloc | apply Kd.R_drewN | apply Kd.R_drew)); exact HO_9.out⟩, ⟨by (with_reducible repeat (first | apply Kd.R_alloc | apply Kd.R_drewN | apply Kd.R_drew)); exact HO_11.out⟩, ⟨by repeat (first | (with_reducible first | exact HB.out | apply below_alloc | apply kA | apply below_drew1) | exact HB.out)⟩⟩
                              · rw [if_neg c30] at H
                                have c30b0 : ((rd t455 (ji26)) == (rd t449 x13_3)) = false := beq_eq_false_iff_ne.mpr c30
                                have c30b1 : ((rd t455 (ji26)) != (rd t449 x13_3)) = true := bne_iff_ne.mpr c30
                                exact absurd (Option.some.inj H) (by rw [HRT.out]; decide)
                            · rw [if_neg c29] at H
                              exact absurd H (by simp)
                          · rw [if_neg c28] at H
                            exact absurd H (by simp)
                        · rw [if_neg c27] at H
                          exact absurd H (by simp)
                      · rw [if_neg c25] at H
                        have c25b0 : decide (x13_3 < (t449.length : Int)) = false := decide_eq_false c25
                        clear c25
                        replace H := Option.bind_eq_some_iff.mp H
                        obtain ⟨t461, A320, H⟩ := H
                        replace H : (some t461) = some r := H
                        have A32 := Aside0.mk A320
                        clear A320
                        obtain rfl := Option.some.inj H
                        go_wp2_with (first | (go_at_call 10; (with_reducible refine (computuslaw21_known.calls  t461 _ A32.out HRT.out).mono ?_); rintro e w33 ⟨rfl, hb⟩; have n0_ := Aside0.mk (Kd.R_below (by (with_reducible repeat (first | apply Kd.R_alloc | apply Kd.R_drewN | apply Kd.R_drew)); exact HO_9.out) hb); have n1_ := Aside0.mk (Kd.R_below (by (with_reducible repeat (first | apply Kd.R_alloc | apply Kd.R_drewN | apply Kd.R_drew)); exact HO_11.out) hb); have n2_ := Aside0.mk (below_step (by repeat (first | (with_reducible first | exact HB.out | apply below_alloc | apply kA | apply below_drew1) | exact HB.out)) hb); clear HO_9; clear HO_11; clear HB; have HO_9 := n0_; have HO_11 := n1_; have HB := n2_; clear n0_ n1_ n2_; (try clear hb); (try clear hb2); (try clear hk); (try clear hi)))
                        repeat (go_quiet (first | (go_at_call 10; (with_reducible refine (computuslaw21_known.calls  t461 _ A32.out HRT.out).mono ?_); rintro e w33 ⟨rfl, hb⟩; have n0_ := Aside0.mk (Kd.R_below (by (with_reducible repeat (first | apply Kd.R_alloc | apply Kd.R_drewN | apply Kd.R_drew)); exact HO_9.out) hb); have n1_ := Aside0.mk (Kd.R_below (by (with_reducible repeat (first | apply Kd.R_alloc | apply Kd.R_drewN | apply Kd.R_drew)); exact HO_11.out) hb); have n2_ := Aside0.mk (below_step (by repeat (first | (with_reducible first | exact HB.out | apply below_alloc | apply kA | apply below_drew1) | exact HB.out)) hb); clear HO_9; clear HO_11; clear HB; have HO_9 := n0_; have HO_11 := n1_; have HB := n2_; clear n0_ n1_ n2_; (try clear hb); (try clear hb2); (try clear hk); (try clear hi))); try go_wp2_with (first | (go_at_call 10; (with_reducible refine (computuslaw21_known.calls  t461 _ A32.out HRT.out).mono ?_); rintro e w33 ⟨rfl, hb⟩; have n0_ := Aside0.mk (Kd.R_below (by (with_reducible repeat (first | apply Kd.R_alloc | apply Kd.R_drewN | apply Kd.R_drew)); exact HO_9.out) hb); have n1_ := Aside0.mk (Kd.R_below (by (with_reducible repeat (first | apply Kd.R_alloc | apply Kd.R_drewN | apply Kd.R_drew)); exact HO_11.out) hb); have n2_ := Aside0.mk (below_step (by repeat (first | (with_reducible first | exact HB.out | apply below_alloc | apply kA | apply below_drew1) | exact HB.out)) hb); clear HO_9; clear HO_11; clear HB; have HO_9 := n0_; have HO_11 := n1_; have HB := n2_; clear n0_ n1_ n2_; (try clear hb); (try clear hb2); (try clear hk); (try clear hi))))
                        go_ret
                        exact ⟨by first | rfl | (simp [errW_none, errW_some] <;> rfl) | (simp only [← hji15]; first | rfl | (simp [errW_none, errW_some] <;> rfl)) | (simp [*, errW_none, errW_some] <;> rfl), by repeat (first | (with_reducible first | exact HB.out | apply below_alloc | apply kA | apply below_drew1) | exact HB.out)⟩
          · rw [if_neg c17] at H
            exact absurd H (by simp)
        · rw [if_neg c16] at H
          exact absurd H (by simp)
/-- THE ONE PURE STATEMENT of computuslaw21_SeriesBack: yours. -/
def computuslaw21_SeriesBack.Pure : Prop := ∀ (a0 : Int) (a1 : Int) (a2 : Int) (a3 : Int), (Lit.int .i64 a0).wf = true → (Lit.int .i64 a1).wf = true → (Lit.int .i64 a2).wf = true → (Lit.int .i64 a3).wf = true → ∃ k, computuslaw21_SeriesBack.f k a0 a1 a2 a3 = some true
theorem computuslaw21_SeriesBack.walk (P : computuslaw21_SeriesBack.Pure) (a0 : Int) (a1 : Int) (a2 : Int) (a3 : Int) (w : World) (w0 : (Lit.int .i64 a0).wf = true) (w1 : (Lit.int .i64 a1).wf = true) (w2 : (Lit.int .i64 a2).wf = true) (w3 : (Lit.int .i64 a3).wf = true) :
    Calls Try.prog 4 #[.int .i64 a0, .int .i64 a1, .int .i64 a2, .int .i64 a3] w fun e w' => e = .returned (.bool true) ∧ Below w.heap.size w w' := by
  obtain ⟨k, h⟩ := P a0 a1 a2 a3 w0 w1 w2 w3
  refine (computuslaw21_SeriesBack.calls k a0 a1 a2 a3 true w h rfl).mono ?_
  rintro e w' ⟨rfl, hd⟩
  exact ⟨rfl, hd⟩
end Go.Proofs.Yteceeoaabmbckaa.P
namespace Go.Proofs.Yteceeoaabmbckaa.Civ
set_option linter.unusedVariables false
set_option linter.unusedSimpArgs false
open Go.RowKit Go.Proofs.YteceeoaabmbckaaW.PrintWords Go.Proofs.YteceeoaabmbckaaW.PrintLast Go.Proofs.YteceeoaabmbckaaW.PrintMore
theorem w64 {x : Int} (h1 : -9223372036854775808 ≤ x) (h2 : x ≤ 9223372036854775807) : wrap64 x = x := by unfold wrap64; omega
/-- A number is one of 64 bits. -/
def I64 (x : Int) : Prop := -9223372036854775808 ≤ x ∧ x ≤ 9223372036854775807
theorem i64_of_wf {x : Int} (h : (Lit.int .i64 x).wf = true) : I64 x := by
  simp only [Lit.wf, IntKind.min, IntKind.max, IntKind.signed, IntKind.bits, Bool.and_eq_true, decide_eq_true_eq, if_true] at h
  exact h
theorem wrap_i64 (x : Int) : I64 (wrap64 x) := by unfold I64 wrap64; omega
theorem w64_of {x : Int} (h : I64 x) : wrap64 x = x := w64 h.1 h.2
theorem td_pos {a b : Int} (ha : 0 ≤ a) : Int.tdiv a b = a / b := Int.tdiv_eq_ediv_of_nonneg ha
theorem Ev.at1 {α : Type} {g : Nat → Option α} {r : α} (h : ∀ k, g (k + 1) = some r) : Ev g r :=
  ⟨1, fun k hk => by obtain ⟨m, rfl⟩ : ∃ m, k = m + 1 := ⟨k - 1, by omega⟩; exact h m⟩
theorem Ev.cast {α : Type} {g : Nat → Option α} {r r' : α} (h : Ev g r) (e : r = r') : Ev g r' := e ▸ h
/-- One round, as it stands. -/
theorem Ev.succ {α : Type} {g : Nat → Option α} {r : α} (h : Ev (fun k => g (k + 1)) r) : Ev g r := Ev.step (f := fun k => g (k + 1)) (fun _ => rfl) h
theorem Ev.pos {α : Type} {c : Prop} [Decidable c] {f g : Nat → Option α} {r : α} (h : c) (k : Ev f r) : Ev (fun n => if c then f n else g n) r := by
  simpa only [if_pos h] using k
theorem Ev.neg {α : Type} {c : Prop} [Decidable c] {f g : Nat → Option α} {r : α} (h : ¬ c) (k : Ev g r) : Ev (fun n => if c then f n else g n) r := by
  simpa only [if_neg h] using k
end Go.Proofs.Yteceeoaabmbckaa.Civ
namespace Go.Proofs.Yteceeoaabmbckaa.Civ
set_option linter.unusedVariables false
set_option linter.unusedSimpArgs false
open Go.RowKit Go.Proofs.YteceeoaabmbckaaW.PrintWords Go.Proofs.YteceeoaabmbckaaW.PrintLast Go.Proofs.YteceeoaabmbckaaW.PrintMore Go.Proofs.Yteceeoaabmbckaa.P
theorem u64m (x : Int) : IntKind.u64.wrap x = x % 18446744073709551616 := by simp [IntKind.wrap, IntKind.bits, IntKind.signed]
theorem u64w {x : Int} (h1 : 0 ≤ x) (h2 : x ≤ 18446744073709551615) : IntKind.u64.wrap x = x := by rw [u64m]; omega
end Go.Proofs.Yteceeoaabmbckaa.Civ
namespace Go.Proofs.Yteceeoaabmbckaa.Civ
set_option linter.unusedVariables false
set_option linter.unusedSimpArgs false
open Go.RowKit Go.Proofs.YteceeoaabmbckaaW.PrintWords Go.Proofs.YteceeoaabmbckaaW.PrintLast Go.Proofs.YteceeoaabmbckaaW.PrintMore Go.Proofs.Yteceeoaabmbckaa.P
/-- How many numbers follow each other from a on up to b. -/
def cntS (a b s : Int) : Int := if s > 0 then (if a > b then 0 else (b - a) / s + 1) else (if b > a then 0 else (a - b) / -s + 1)
def cntR (a b s : Int) : Int × Int := if s = 0 then (0, 11) else if cntS a b s ≤ 18446744073709551615 then (cntS a b s, 0) else (0, 10)
theorem div_bd {x y : Int} (hx : 0 ≤ x) (hy : 0 < y) : 0 ≤ x / y ∧ x / y ≤ x := ⟨Int.ediv_nonneg hx (by omega), Int.ediv_le_self _ hx⟩
theorem add64_one {q : Int} (h0 : 0 ≤ q) : bits_Add64.f q 1 0 = some ((q + 1 + 0) % 18446744073709551616, (q + 1 + 0) / 18446744073709551616) := by
  unfold bits_Add64.f
  rw [if_pos h0, if_pos (by decide), if_pos (by decide), if_pos (by decide)]
theorem count_j0 (k : Nat) {a b by_ : Int} (ha : I64 a) (hb : I64 b) (h0 : 0 < by_) : series_Count.j0 (k + 1) a b by_ = some (if a > b then (0, 0) else if (b - a) / by_ + 1 ≤ 18446744073709551615 then ((b - a) / by_ + 1, 0) else (0, 10)) := by
  unfold I64 at ha hb
  simp only [series_Count.j0]
  by_cases h : a > b
  · rw [if_pos h, if_pos h]
  · have e1 : IntKind.u64.wrap (IntKind.u64.wrap b - IntKind.u64.wrap a) = b - a := by rw [u64m, u64m, u64m]; omega
    have d := div_bd (x := b - a) (by omega) h0
    rw [if_neg h, if_neg h, if_neg (by omega), e1, td_pos (by omega), u64w d.1 (by omega), add64_one d.1]
    simp only [Option.bind_some]
    by_cases g : (b - a) / by_ + 1 ≤ 18446744073709551615
    · rw [if_pos (by omega), if_pos g]
      congr 2; omega
    · rw [if_neg (by omega), if_neg g]
theorem cntS_up (a b : Int) {s : Int} (h : s > 0) : cntS a b s = if a > b then 0 else (b - a) / s + 1 := if_pos h
theorem cntS_down (a b : Int) {s : Int} (h : ¬ s > 0) : cntS a b s = if b > a then 0 else (a - b) / -s + 1 := if_neg h
theorem count_eq (k : Nat) {a b s : Int} (ha : I64 a) (hb : I64 b) (hs : I64 s) : series_Count.f (k + 1) a b s = some (cntR a b s) := by
  have hs' := hs
  unfold I64 at hs'
  unfold series_Count.f cntR
  by_cases h : s = 0
  · rw [if_pos h, if_pos h]
  · rw [if_neg h, if_neg h]
    by_cases g : s < 0
    · have e : IntKind.u64.wrap (-IntKind.u64.wrap s) = -s := by rw [u64m, u64m]; omega
      rw [if_pos g, e, count_j0 k hb ha (by omega), cntS_down a b (by omega)]
      by_cases q : b > a
      · rw [if_pos q, if_pos q]; rfl
      · rw [if_neg q, if_neg q]
    · have e : IntKind.u64.wrap s = s := by rw [u64m]; omega
      rw [if_neg g, e, count_j0 k ha hb (by omega), cntS_up a b (by omega)]
      by_cases q : a > b
      · rw [if_pos q, if_pos q]; rfl
      · rw [if_neg q, if_neg q]
/-- n numbers from a on. -/
def ints (a s : Int) (n : Nat) : List Int := (List.range n).map fun (i : Nat) => a + (i : Int) * s
theorem ints_length (a s : Int) (n : Nat) : (ints a s n).length = n := by simp [ints]
theorem ints_succ (a s : Int) (n : Nat) : ints a s (n + 1) = ints a s n ++ [a + n * s] := by simp [ints, List.range_succ]
theorem ints_rd (a s : Int) {n i : Nat} (h : i < n) : rd (ints a s n) (i : Int) = a + i * s := by
  simp [rd, ints, h]
theorem wrap_in (a x : Int) : wrap64 (a + wrap64 x) = wrap64 (a + x) := by unfold wrap64; omega
/-- A number that follows lies between both ends. -/
theorem ints_in {a b s : Int} (ha : I64 a) (hb : I64 b) (h0 : s ≠ 0) {i : Nat} (hi : (i : Int) < cntS a b s) : I64 (a + i * s) := by
  unfold I64 at *
  unfold cntS at hi
  by_cases g : s > 0
  · rw [if_pos g] at hi
    by_cases q : a > b
    · rw [if_pos q] at hi; omega
    · rw [if_neg q] at hi
      have e := Int.mul_ediv_add_emod (b - a) s
      have e0 := Int.emod_nonneg (b - a) h0
      have m : (i : Int) * s ≤ (b - a) / s * s := Int.mul_le_mul_of_nonneg_right (by omega) (by omega)
      have m0 : 0 ≤ (i : Int) * s := Int.mul_nonneg (by omega) (by omega)
      rw [Int.mul_comm s] at e
      omega
  · rw [if_neg g] at hi
    by_cases q : b > a
    · rw [if_pos q] at hi; omega
    · rw [if_neg q] at hi
      have e := Int.mul_ediv_add_emod (a - b) (-s)
      have e0 := Int.emod_nonneg (a - b) (b := -s) (by omega)
      have m : (i : Int) * -s ≤ (a - b) / -s * -s := Int.mul_le_mul_of_nonneg_right (by omega) (by omega)
      have m0 : 0 ≤ (i : Int) * -s := Int.mul_nonneg (by omega) (by omega)
      rw [Int.mul_comm (-s)] at e
      rw [Int.mul_neg] at m m0
      omega
theorem cntS_nonneg (a b s : Int) (h0 : s ≠ 0) : 0 ≤ cntS a b s := by
  unfold cntS
  by_cases g : s > 0
  · rw [if_pos g]
    by_cases q : a > b
    · rw [if_pos q]; omega
    · rw [if_neg q]; have := div_bd (x := b - a) (y := s) (by omega) g; omega
  · rw [if_neg g]
    by_cases q : b > a
    · rw [if_pos q]; omega
    · rw [if_neg q]; have := div_bd (x := a - b) (y := -s) (by omega) (by omega); omega
def intsR (a b s m : Int) : List Int × Int := if m < 0 ∨ m > 1000 then ([], 1) else if s = 0 then ([], 11) else if cntS a b s > m then ([], 14) else (ints a s (cntS a b s).toNat, 0)
theorem ints_loop {a s : Int} {n : Nat} (hn : n ≤ 1000) (hr : ∀ i : Nat, i < n → I64 (a + i * s)) : ∀ d i : Nat, i + d = n → Ev (fun k => series_Ints.l0 k a s (ints a s i) n i) (ints a s n, 0) := by
  intro d
  induction d with
  | zero =>
    intro i hi
    have : i = n := by omega
    subst this
    refine Ev.at1 fun k => ?_
    simp only [series_Ints.l0]
    rw [if_neg (by omega)]
  | succ d ih =>
    intro i hi
    refine Ev.step (f := fun k => series_Ints.l0 k a s (ints a s (i + 1)) n ((i + 1 : Nat) : Int)) (fun k => ?_) (ih (i + 1) (by omega))
    have hw : wrap64 (a + wrap64 ((i : Int) * s)) = a + i * s := by rw [wrap_in, w64_of (hr i (by omega))]
    simp only [series_Ints.l0]
    rw [if_pos (by omega), ints_length, if_pos (by omega), hw, w64 (by omega) (by omega), ints_succ]
    rfl
theorem ints_ev {a b s m : Int} (ha : I64 a) (hb : I64 b) (hs : I64 s) : Ev (fun k => series_Ints.f k a b s m) (intsR a b s m) := by
  unfold series_Ints.f intsR
  by_cases h : m < 0
  · refine Ev.pos h (Ev.at1 fun k => ?_)
    simp only [series_Ints.j0, if_true]
    rw [if_pos (.inl h)]
  · refine Ev.neg h ?_
    by_cases h2 : m > 1000
    · rw [decide_eq_true h2]
      refine Ev.at1 fun k => ?_
      simp only [series_Ints.j0, if_true]
      rw [if_pos (.inr h2)]
    · rw [decide_eq_false h2, if_neg (by omega)]
      refine Ev.succ ?_
      simp only [series_Ints.j0, Bool.false_eq_true, if_false]
      refine Ev.bind (Ev.at1 fun k => count_eq k ha hb hs) ?_
      unfold cntR
      by_cases z : s = 0
      · rw [if_pos z, if_pos z]
        exact Ev.pos rfl (Ev.now _)
      · have hc := cntS_nonneg a b s z
        rw [if_neg z, if_neg z]
        by_cases g : cntS a b s ≤ 18446744073709551615
        · rw [if_pos g]
          refine Ev.neg (by simp) (Ev.pos rfl ?_)
          have em : IntKind.u64.wrap m = m := by rw [u64m]; omega
          by_cases q : cntS a b s > m
          · exact Ev.pos (by rw [em]; exact q) (Ev.cast (Ev.now _) (if_pos q).symm)
          · refine Ev.neg (by rw [em]; exact q) (Ev.cast ?_ (if_neg q).symm)
            have hn : (cntS a b s).toNat ≤ 1000 := by omega
            have := ints_loop (a := a) (s := s) (n := (cntS a b s).toNat) hn (fun i hi => ints_in ha hb z (by omega)) (cntS a b s).toNat 0 (by omega)
            have e2 : wrap64 (cntS a b s) = ((cntS a b s).toNat : Int) := by rw [w64 (by omega) (by omega)]; omega
            simp only [e2]
            exact this
        · rw [if_neg g]
          refine Ev.neg (by simp) (Ev.neg (by simp) (Ev.cast (Ev.now _) (if_pos (show cntS a b s > m by omega)).symm))
end Go.Proofs.Yteceeoaabmbckaa.Civ
namespace Go.Proofs.Yteceeoaabmbckaa.Pure
set_option linter.unusedVariables false
set_option linter.unusedSimpArgs false
open Go.RowKit Go.Proofs.Yteceeoaabmbckaa.P Go.Proofs.YteceeoaabmbckaaW.PrintWords Go.Proofs.YteceeoaabmbckaaW.PrintLast Go.Proofs.Yteceeoaabmbckaa.Civ
theorem back_skip (a b c : Int) (l : List Int) : Ev (fun k => computuslaw21_SeriesBack.j0 k a b c l true) true := by
  refine Ev.at1 fun k => ?_
  simp only [computuslaw21_SeriesBack.j0, if_true]
  rfl
/-- From the last one back to the first one there are as many. -/
theorem cnt_back {a b s : Int} (h0 : s ≠ 0) {n : Nat} (hn : ((n : Int) + 1) = cntS a b s) : cntS (a + n * s) a (-s) = n + 1 := by
  have hp : s > 0 → 0 ≤ (n : Int) * s := fun g => Int.mul_nonneg (by omega) (by omega)
  have hq : ¬ s > 0 → (n : Int) * s ≤ 0 := fun g => Int.mul_nonpos_of_nonneg_of_nonpos (by omega) (by omega)
  unfold cntS
  by_cases g : s > 0
  · have := hp g
    rw [if_neg (by omega), if_neg (by omega), Int.neg_neg, show a + n * s - a = n * s by omega, Int.mul_ediv_cancel _ h0]
  · have := hq g
    rw [if_pos (by omega), if_neg (by omega), show a - (a + n * s) = n * -s by rw [Int.mul_neg]; omega, Int.mul_ediv_cancel _ (by omega)]
theorem back_loop {a s c : Int} {n : Nat} (hn : n < 1000) (hc : c = a + n * s) : ∀ d i : Nat, i + d = n + 1 → Ev (fun k => computuslaw21_SeriesBack.l0 k (ints a s (n + 1)) (ints c (-s) (n + 1)) i) true := by
  subst hc
  intro d
  induction d with
  | zero =>
    intro i hi
    refine Ev.at1 fun k => ?_
    simp only [computuslaw21_SeriesBack.l0, ints_length]
    rw [if_neg (by omega)]
    rfl
  | succ d ih =>
    intro i hi
    refine Ev.step (f := fun k => computuslaw21_SeriesBack.l0 k (ints a s (n + 1)) (ints (a + n * s) (-s) (n + 1)) ((i + 1 : Nat) : Int)) (fun k => ?_) (ih (i + 1) (by omega))
    have e : wrap64 (wrap64 (((n + 1 : Nat) : Int) - 1) - (i : Int)) = ((n - i : Nat) : Int) := by rw [w64 (x := ((n + 1 : Nat) : Int) - 1) (by omega) (by omega), w64 (by omega) (by omega)]; omega
    simp only [computuslaw21_SeriesBack.l0, ints_length]
    rw [e, if_pos (by omega), if_pos (by omega), if_pos (by omega), if_pos (by omega), ints_rd a s (by omega), ints_rd _ _ (by omega), if_pos, w64 (by omega) (by omega)]
    · rfl
    · have : ((n - i : Nat) : Int) = n - i := by omega
      rw [this, Int.mul_neg, Int.sub_mul]; omega
theorem SeriesBack : computuslaw21_SeriesBack.Pure := by
  intro a b s m ha hb hs _
  have ha := i64_of_wf ha
  have hb := i64_of_wf hb
  have hs := i64_of_wf hs
  refine Ev.rounds ?_
  unfold computuslaw21_SeriesBack.f
  refine Ev.bind (ints_ev ha hb hs) ?_
  unfold intsR
  by_cases h1 : m < 0 ∨ m > 1000
  · rw [if_pos h1]; exact Ev.neg (by decide) (back_skip _ _ _ _)
  · rw [if_neg h1]
    by_cases h2 : s = 0
    · rw [if_pos h2]; exact Ev.neg (by decide) (back_skip _ _ _ _)
    · rw [if_neg h2]
      by_cases h3 : cntS a b s > m
      · rw [if_pos h3]; exact Ev.neg (by decide) (back_skip _ _ _ _)
      · rw [if_neg h3]
        refine Ev.pos rfl ?_
        have hc := cntS_nonneg a b s h2
        have hnn : (cntS a b s).toNat = cntS a b s := by omega
        generalize hN : (cntS a b s).toNat = N at *
        simp only [ints_length]
        by_cases h4 : (N : Int) = 0
        · exact Ev.pos h4 (back_skip _ _ _ _)
        · refine Ev.neg h4 ?_
          by_cases h5 : s = -9223372036854775808
          · rw [show (s == -9223372036854775808) = true by simpa using h5]; exact back_skip _ _ _ _
          · rw [show (s == -9223372036854775808) = false by simpa using h5]
            obtain ⟨n, rfl⟩ : ∃ n, N = n + 1 := ⟨N - 1, by omega⟩
            refine Ev.succ ?_
            simp only [computuslaw21_SeriesBack.j0, Bool.false_eq_true, if_false, ints_length]
            have e1 : wrap64 (((n + 1 : Nat) : Int) - 1) = (n : Int) := by rw [w64 (by omega) (by omega)]; omega
            have e2 : wrap64 (-s) = -s := by unfold I64 at hs; exact w64 (by omega) (by omega)
            have hs2 : I64 (-s) := by unfold I64 at *; omega
            have hl : I64 (a + n * s) := ints_in ha hb h2 (by omega)
            rw [e1, e2, ints_rd a s (by omega)]
            refine Ev.pos (by omega) (Ev.pos (by omega) (Ev.bind (ints_ev hl ha hs2) ?_))
            have hb2 := cnt_back (a := a) (b := b) h2 (n := n) (by omega)
            have er : intsR (a + n * s) a (-s) m = (ints (a + n * s) (-s) (n + 1), 0) := by
              unfold intsR
              rw [if_neg h1, if_neg (by omega), if_neg (by omega), hb2]
              congr 2
            rw [er]
            refine Ev.pos rfl (Ev.succ ?_)
            simp only [computuslaw21_SeriesBack.j1, ints_length, bne_self_eq_false, Bool.false_eq_true, if_false]
            exact back_loop (a := a) (s := s) (n := n) (by omega) rfl (n + 1) 0 (by omega)
end Go.Proofs.Yteceeoaabmbckaa.Pure
