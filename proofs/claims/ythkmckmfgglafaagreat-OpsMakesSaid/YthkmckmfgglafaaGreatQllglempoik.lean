-- Written by a program of the session (a print of the seat's translation, functions given by hand among it). Lean checks it.
import Derived.Test.YthkmckmfgglafaaGreatQdofiagjpmj
import Derived.Test.YthkmckmfgglafaaGreatQmkafekppgk
namespace Go.Proofs.YthkmckmfgglafaaGreat.P
open Go.RowKit Go.Proofs.YthkmckmfgglafaaGreatW.PrintWords Go.Proofs.YthkmckmfgglafaaGreatW.PrintLast Go.Proofs.YthkmckmfgglafaaGreatW.PrintMore
open Go.Proofs.YthkmckmfgglafaaGreat.A
attribute [local go_sem] max2_int min2_int max_two min_two max_three min_three max_four min_four   -- for this text's walks alone
set_option linter.unusedVariables false
set_option linter.unusedSimpArgs false
def computusref15_Stamp.j0 : Nat → Int → Bool → Int → Int → Option (Int × Int × Int)
  | 0, _, _, _, _ => none
  | k + 1, x1, x17, x415000, x415001 => if x17 = true then (some (0, 0, 1)) else (if x415000 = 0 then (if x1 = 86400000000 then ((computusref15_inside.f k (wrap64 (x415001 + 1))).bind fun t417 => (if t417 = true then (some (0, wrap64 ((wrap64 ((wrap64 (x415001 + 1)) * 86400000000))), 0)) else (some (0, 0, 10)))) else ((computusref15_inside.f k x415001).bind fun t418 => (if t418 = true then (some (0, wrap64 ((wrap64 (x415001 * 86400000000)) + x1), 0)) else (some (0, 0, 10))))) else (some (x415000, 0, 0)))
def computusref15_Stamp.f (k : Nat) (a0_0 : Int) (a0_1 : Int) (a1 : Int) : Option (Int × Int × Int) := (computusref15_Right.f k a0_0 a0_1).bind fun t416 => (if t416 = true then (if a1 < 0 then (computusref15_Stamp.j0 k a1 true a0_0 a0_1) else (computusref15_Stamp.j0 k a1 (decide (a1 > 86400000000)) a0_0 a0_1)) else (computusref15_Stamp.j0 k a1 true a0_0 a0_1))
set_option maxHeartbeats 8000000 in
set_option maxRecDepth 100000 in
theorem computusref15_Stamp.calls (k : Nat) (a0_0 : Int) (a0_1 : Int) (a1 : Int) (r1 : Int) (r2 : Int) (r3 : Int) (w : World) (h : computusref15_Stamp.f k a0_0 a0_1 a1 = some (r1, r2, r3)) :
    Calls Tryz.prog 16 #[.agg #[.int .i64 a0_0, .int .i64 a0_1], .int .i64 a1] w fun e w' => e = .returned (.tuple #[.agg #[.int .i64 r1, .int .i64 r2], .int .i64 r3]) ∧ Below w.heap.size w w' := by
  have hu37 := Tryz.underlying37
  have hu23 := Tryz.underlying23
  have HB := Aside0.mk (Below.refl w.heap.size w)
  have H : ((computusref15_Right.f k a0_0 a0_1).bind fun t416 => (if t416 = true then (if a1 < 0 then (computusref15_Stamp.j0 k a1 true a0_0 a0_1) else (computusref15_Stamp.j0 k a1 (decide (a1 > 86400000000)) a0_0 a0_1)) else (computusref15_Stamp.j0 k a1 true a0_0 a0_1))) = some (r1, r2, r3) := h
  clear h
  have HC3 := Aside0.mk H
  clear H
  go_enter Tryz.func16, Tryz.ntmps16
  go_upto_region 1 with (first | ((with_reducible refine kN (N := 2) rfl ?_); refine kO ?hg (N := 2) ?hd (cs := #[.int .i64 a0_0, .int .i64 a0_1]) (t := 37) ?hr ?_; (case hd => rfl); (case hg => rfl); (case hr => first | (go_simp; done) | (go_simp; rfl)); intro gb414 hg w4 hbox hb; have n0_ := Aside0.mk (kK (by repeat (first | (with_reducible first | exact HB.out | apply kC | apply kA | apply kB) | exact HB.out)) hb); have n1_ := Aside0.mk (hbox); have n2_ := Aside0.mk ((by rw [hg]; exact (kJ (by repeat (first | (with_reducible first | exact HB.out | apply kC | apply kA | apply kB) | exact HB.out))) : w.heap.size ≤ gb414)); have n3_ := Aside0.mk ((by rw [hg]; exact (kJ (by repeat (first | (with_reducible first | exact HB.out | apply kC | apply kA | apply kB) | exact HB.out))) : w.heap.size ≤ gb414)); clear HB; have HB := n0_; have BK414 := n1_; have GW414 := n2_; have GE414 := n3_; clear n0_ n1_ n2_ n3_; clear hb hbox hg) | ((with_reducible refine kN (N := 4) rfl ?_); refine kO ?hg (N := 4) ?hd (cs := #[.int .i64 0, .int .i64 0]) (t := 23) ?hr ?_; (case hd => rfl); (case hg => rfl); (case hr => first | (go_simp; done) | (go_simp; rfl)); intro gb415 hg w5 hbox hb; have n0_ := Aside0.mk (kL (g := gb414) (o := .cells #[.int .i64 a0_0, .int .i64 a0_1] 37 (0, 0)) (by (with_reducible repeat (first | refine kF ?_ _ | refine kG ?_ | refine kE ?_ _)); exact BK414.out) hb); have n1_ := Aside0.mk (kK (by repeat (first | (with_reducible first | exact HB.out | apply kC | apply kA | apply kB | refine kD ?_ GE414.out) | exact HB.out)) hb); have n2_ := Aside0.mk (hbox); have n3_ := Aside0.mk ((by rw [hg]; exact (kJ (by repeat (first | (with_reducible first | exact HB.out | apply kC | apply kA | apply kB | refine kD ?_ GE414.out) | exact HB.out))) : w.heap.size ≤ gb415)); have n4_ := Aside0.mk ((by rw [hg]; exact (kJ (by repeat (first | (with_reducible first | exact HB.out | apply kC | apply kA | apply kB | refine kD ?_ GE414.out) | exact HB.out))) : w.heap.size ≤ gb415)); have n5_ := Aside0.mk ((by rw [hg]; exact Nat.ne_of_lt (blk_lt (g := gb414) (o := .cells #[.int .i64 a0_0, .int .i64 a0_1] 37 (0, 0)) (by (with_reducible repeat (first | refine kF ?_ _ | refine kG ?_ | refine kE ?_ _)); exact BK414.out)) : gb414 ≠ gb415)); have n6_ := Aside0.mk ((by rw [hg]; exact Nat.ne_of_gt (blk_lt (g := gb414) (o := .cells #[.int .i64 a0_0, .int .i64 a0_1] 37 (0, 0)) (by (with_reducible repeat (first | refine kF ?_ _ | refine kG ?_ | refine kE ?_ _)); exact BK414.out)) : gb415 ≠ gb414)); clear BK414; clear HB; have BK414 := n0_; have HB := n1_; have BK415 := n2_; have GW415 := n3_; have GE415 := n4_; have NB414_415 := n5_; have NB415_414 := n6_; clear n0_ n1_ n2_ n3_ n4_ n5_ n6_; clear hb hbox hg))
  (try simp only [Act.put, List.setIfInBounds_toArray, List.set_cons_zero, List.set_cons_succ])
  go_cut [17] (fun v17 wc => ∃ (kq : Nat) (x17_2 : Bool), v17 = .bool x17_2 ∧ Aside0 (computusref15_Stamp.j0 kq a1 x17_2 a0_0 a0_1 = some (r1, r2, r3)) ∧ Aside0 (kq ≤ k) ∧ Aside0 (wc.heap[gb414]? = some (.cells #[.int .i64 a0_0, .int .i64 a0_1] 37 (0, 0))) ∧ Aside0 (wc.heap[gb415]? = some (.cells #[.int .i64 0, .int .i64 0] 23 (0, 0))) ∧ Aside0 (Below w.heap.size w wc))
  case first =>
    have H := HC3.out
    clear HC3
    replace H := Option.bind_eq_some_iff.mp H
    obtain ⟨t416, A60, H⟩ := H
    replace H : (if t416 = true then (if a1 < 0 then (computusref15_Stamp.j0 k a1 true a0_0 a0_1) else (computusref15_Stamp.j0 k a1 (decide (a1 > 86400000000)) a0_0 a0_1)) else (computusref15_Stamp.j0 k a1 true a0_0 a0_1)) = some (r1, r2, r3) := H
    have A6 := Aside0.mk A60
    clear A60
    by_cases c7 : t416 = true
    · subst c7
      have H1 : (if a1 < 0 then (computusref15_Stamp.j0 k a1 true a0_0 a0_1) else (computusref15_Stamp.j0 k a1 (decide (a1 > 86400000000)) a0_0 a0_1)) = some (r1, r2, r3) := by rw [if_pos rfl] at H; exact H
      clear H
      have H := H1
      clear H1
      by_cases c8 : a1 < 0
      · rw [if_pos c8] at H
        have c8b0 : decide (a1 < 0) = true := decide_eq_true c8
        clear c8
        (first | rw [c8b0] | (simp only [i64_w, i32_w]; rw [c8b0]) | skip)
        have H' := Aside0.mk H
        clear H
        have hnb9 := NB414_415.out
        have hnc9 := NB415_414.out
        have hcz10_0 : w5.cell? ⟨gb414, 0, none⟩ = some (.int .i64 a0_0) := (kI BK414.out 0).trans rfl
        have hcz10_1 : w5.cell? ⟨gb414, 1, none⟩ = some (.int .i64 a0_1) := (kI BK414.out 1).trans rfl
        have hfz10_0 := kH BK414.out 0
        have hfz10_1 := kH BK414.out 1
        go_wp2_with (first | ((with_reducible refine kM (f := 51) rfl ?_); refine kP (some 8) rfl rfl Tryz.func51 (by kernel_rfl) rfl #[.agg #[.int .i64 a0_0, .int .i64 a0_1]] rfl (by (try simp only [List.map_toArray, List.map_cons, List.map_nil]); first | done | rfl | (simp only [List.length_drop, List.length_take]; rfl)) ?_; (with_reducible refine (computusref15_Right.calls k a0_0 a0_1 true _ A6.out).mono ?_); rintro e w11 ⟨rfl, hb⟩; refine ⟨_, rfl, ?_⟩; have n0_ := Aside0.mk (kL (g := gb414) (o := .cells #[.int .i64 a0_0, .int .i64 a0_1] 37 (0, 0)) (by (with_reducible repeat (first | refine kF ?_ _ | refine kG ?_ | refine kE ?_ _)); exact BK414.out) hb); have n1_ := Aside0.mk (kL (g := gb415) (o := .cells #[.int .i64 0, .int .i64 0] 23 (0, 0)) (by (with_reducible repeat (first | refine kF ?_ _ | refine kG ?_ | refine kE ?_ _)); exact BK415.out) hb); have n2_ := Aside0.mk (kK (by repeat (first | (with_reducible first | exact HB.out | apply kC | apply kA | apply kB | refine kD ?_ GE414.out | refine kD ?_ GE415.out) | exact HB.out)) hb); clear BK414; clear BK415; clear HB; have BK414 := n0_; have BK415 := n1_; have HB := n2_; clear n0_ n1_ n2_; (try clear hb); (try clear hb2); (try clear hk); (try clear hi)))
        go_meet
        case rel => exact ⟨_, (true), (by first | rfl | (simp; done) | (simp [*]; done)), H', ⟨by first | omega | exact Nat.le_refl _⟩, ⟨by (with_reducible repeat (first | refine kF ?_ _ | refine kG ?_ | refine kE ?_ _)); exact BK414.out⟩, ⟨by (with_reducible repeat (first | refine kF ?_ _ | refine kG ?_ | refine kE ?_ _)); exact BK415.out⟩, ⟨by repeat (first | (with_reducible first | exact HB.out | apply kC | apply kA | apply kB | refine kD ?_ GE414.out | refine kD ?_ GE415.out) | exact HB.out)⟩⟩
      · rw [if_neg c8] at H
        have c8b0 : decide (a1 < 0) = false := decide_eq_false c8
        clear c8
        (first | rw [c8b0] | (simp only [i64_w, i32_w]; rw [c8b0]) | skip)
        have H' := Aside0.mk H
        clear H
        have hnb12 := NB414_415.out
        have hnc12 := NB415_414.out
        have hcz13_0 : w5.cell? ⟨gb414, 0, none⟩ = some (.int .i64 a0_0) := (kI BK414.out 0).trans rfl
        have hcz13_1 : w5.cell? ⟨gb414, 1, none⟩ = some (.int .i64 a0_1) := (kI BK414.out 1).trans rfl
        have hfz13_0 := kH BK414.out 0
        have hfz13_1 := kH BK414.out 1
        go_wp2_with (first | ((with_reducible refine kM (f := 51) rfl ?_); refine kP (some 8) rfl rfl Tryz.func51 (by kernel_rfl) rfl #[.agg #[.int .i64 a0_0, .int .i64 a0_1]] rfl (by (try simp only [List.map_toArray, List.map_cons, List.map_nil]); first | done | rfl | (simp only [List.length_drop, List.length_take]; rfl)) ?_; (with_reducible refine (computusref15_Right.calls k a0_0 a0_1 true _ A6.out).mono ?_); rintro e w14 ⟨rfl, hb⟩; refine ⟨_, rfl, ?_⟩; have n0_ := Aside0.mk (kL (g := gb414) (o := .cells #[.int .i64 a0_0, .int .i64 a0_1] 37 (0, 0)) (by (with_reducible repeat (first | refine kF ?_ _ | refine kG ?_ | refine kE ?_ _)); exact BK414.out) hb); have n1_ := Aside0.mk (kL (g := gb415) (o := .cells #[.int .i64 0, .int .i64 0] 23 (0, 0)) (by (with_reducible repeat (first | refine kF ?_ _ | refine kG ?_ | refine kE ?_ _)); exact BK415.out) hb); have n2_ := Aside0.mk (kK (by repeat (first | (with_reducible first | exact HB.out | apply kC | apply kA | apply kB | refine kD ?_ GE414.out | refine kD ?_ GE415.out) | exact HB.out)) hb); clear BK414; clear BK415; clear HB; have BK414 := n0_; have BK415 := n1_; have HB := n2_; clear n0_ n1_ n2_; (try clear hb); (try clear hb2); (try clear hk); (try clear hi)))
        go_meet
        case rel => exact ⟨_, (decide (a1 > 86400000000)), (by first | rfl | (simp; done) | (simp [*]; done)), H', ⟨by first | omega | exact Nat.le_refl _⟩, ⟨by (with_reducible repeat (first | refine kF ?_ _ | refine kG ?_ | refine kE ?_ _)); exact BK414.out⟩, ⟨by (with_reducible repeat (first | refine kF ?_ _ | refine kG ?_ | refine kE ?_ _)); exact BK415.out⟩, ⟨by repeat (first | (with_reducible first | exact HB.out | apply kC | apply kA | apply kB | refine kD ?_ GE414.out | refine kD ?_ GE415.out) | exact HB.out)⟩⟩
    · replace c7 := Bool.eq_false_iff.mpr c7
      subst c7
      have H1 : (computusref15_Stamp.j0 k a1 true a0_0 a0_1) = some (r1, r2, r3) := by rw [if_neg (show ¬ (false = true) by decide)] at H; exact H
      clear H
      have H := H1
      clear H1
      have H' := Aside0.mk H
      clear H
      have hnb15 := NB414_415.out
      have hnc15 := NB415_414.out
      have hcz16_0 : w5.cell? ⟨gb414, 0, none⟩ = some (.int .i64 a0_0) := (kI BK414.out 0).trans rfl
      have hcz16_1 : w5.cell? ⟨gb414, 1, none⟩ = some (.int .i64 a0_1) := (kI BK414.out 1).trans rfl
      have hfz16_0 := kH BK414.out 0
      have hfz16_1 := kH BK414.out 1
      go_wp2_with (first | ((with_reducible refine kM (f := 51) rfl ?_); refine kP (some 8) rfl rfl Tryz.func51 (by kernel_rfl) rfl #[.agg #[.int .i64 a0_0, .int .i64 a0_1]] rfl (by (try simp only [List.map_toArray, List.map_cons, List.map_nil]); first | done | rfl | (simp only [List.length_drop, List.length_take]; rfl)) ?_; (with_reducible refine (computusref15_Right.calls k a0_0 a0_1 false _ A6.out).mono ?_); rintro e w17 ⟨rfl, hb⟩; refine ⟨_, rfl, ?_⟩; have n0_ := Aside0.mk (kL (g := gb414) (o := .cells #[.int .i64 a0_0, .int .i64 a0_1] 37 (0, 0)) (by (with_reducible repeat (first | refine kF ?_ _ | refine kG ?_ | refine kE ?_ _)); exact BK414.out) hb); have n1_ := Aside0.mk (kL (g := gb415) (o := .cells #[.int .i64 0, .int .i64 0] 23 (0, 0)) (by (with_reducible repeat (first | refine kF ?_ _ | refine kG ?_ | refine kE ?_ _)); exact BK415.out) hb); have n2_ := Aside0.mk (kK (by repeat (first | (with_reducible first | exact HB.out | apply kC | apply kA | apply kB | refine kD ?_ GE414.out | refine kD ?_ GE415.out) | exact HB.out)) hb); clear BK414; clear BK415; clear HB; have BK414 := n0_; have BK415 := n1_; have HB := n2_; clear n0_ n1_ n2_; (try clear hb); (try clear hb2); (try clear hk); (try clear hi)))
      go_meet
      case rel => exact ⟨_, (true), (by first | rfl | (simp; done) | (simp [*]; done)), H', ⟨by first | omega | exact Nat.le_refl _⟩, ⟨by (with_reducible repeat (first | refine kF ?_ _ | refine kG ?_ | refine kE ?_ _)); exact BK414.out⟩, ⟨by (with_reducible repeat (first | refine kF ?_ _ | refine kG ?_ | refine kE ?_ _)); exact BK415.out⟩, ⟨by repeat (first | (with_reducible first | exact HB.out | apply kC | apply kA | apply kB | refine kD ?_ GE414.out | refine kD ?_ GE415.out) | exact HB.out)⟩⟩
  case rest =>
    clear HC3
    try clear c1
    try clear p2
    try clear c5
    try clear c7
    try clear c8
    try clear c8b0
    try clear c9
    try clear c12
    try clear c15
    try clear c16
    try clear hcz10_0
    try clear hcz10_1
    try clear hcz13_0
    try clear hcz13_1
    try clear hcz16_0
    try clear hcz16_1
    try clear hfz10_0
    try clear hfz10_1
    try clear hfz13_0
    try clear hfz13_1
    try clear hfz16_0
    try clear hfz16_1
    obtain ⟨kq, x17_2, rfl, HA, HJ2, BK414, BK415, HB⟩ := hcut
    cases kq with
    | zero => exact absurd HA.out (by simp [computusref15_Stamp.j0])
    | succ kj2 =>
      have H := HA.out
      clear HA
      simp only [computusref15_Stamp.j0] at H
      by_cases c18 : x17_2 = true
      · subst c18
        have H1 : (some (0, 0, 1)) = some (r1, r2, r3) := by rw [if_pos rfl] at H; exact H
        clear H
        have H := H1
        clear H1
        simp only [Option.some.injEq, Prod.mk.injEq] at H
        obtain ⟨rfl, rfl, rfl⟩ := H
        have hnb19 := NB415_414.out
        have hnc19 := NB414_415.out
        have hcz20_0 : wc.cell? ⟨gb415, 0, none⟩ = some (.int .i64 0) := (kI BK415.out 0).trans rfl
        have hcz20_1 : wc.cell? ⟨gb415, 1, none⟩ = some (.int .i64 0) := (kI BK415.out 1).trans rfl
        have hfz20_0 := kH BK415.out 0
        have hfz20_1 := kH BK415.out 1
        go_wp2
        refine bodyPost_ret (results_ct rfl _ _ gb415 23 #[.int .i64 0, .int .i64 0] (0, 0) _ rfl (by (with_reducible repeat (first | refine kF ?_ _ | refine kG ?_ | refine kE ?_ _)); refine blk_put (cs := #[.int .i64 0, .int .i64 0]) ?_ 1 _ rfl; (with_reducible repeat (first | refine kF ?_ _ | refine kG ?_ | refine kE ?_ _)); refine blk_put (cs := #[.int .i64 0, .int .i64 0]) ?_ 0 _ rfl; (with_reducible repeat (first | refine kF ?_ _ | refine kG ?_ | refine kE ?_ _)); exact BK415.out) Tryz.underlying23 rfl (by kernel_rfl)) rfl ?_
        exact ⟨by first | rfl | (simp [errW_none, errW_some] <;> rfl) | (simp [*, errW_none, errW_some] <;> rfl), by repeat (first | (with_reducible first | exact HB.out | apply kC | apply kA | apply kB | refine kD ?_ GE414.out | refine kD ?_ GE415.out) | exact HB.out)⟩
      · replace c18 := Bool.eq_false_iff.mpr c18
        subst c18
        have H1 : (if a0_0 = 0 then (if a1 = 86400000000 then ((computusref15_inside.f kj2 (wrap64 (a0_1 + 1))).bind fun t417 => (if t417 = true then (some (0, wrap64 ((wrap64 ((wrap64 (a0_1 + 1)) * 86400000000))), 0)) else (some (0, 0, 10)))) else ((computusref15_inside.f kj2 a0_1).bind fun t418 => (if t418 = true then (some (0, wrap64 ((wrap64 (a0_1 * 86400000000)) + a1), 0)) else (some (0, 0, 10))))) else (some (a0_0, 0, 0))) = some (r1, r2, r3) := by rw [if_neg (show ¬ (false = true) by decide)] at H; exact H
        clear H
        have H := H1
        clear H1
        by_cases c21 : a0_0 = 0
        · rw [if_pos c21] at H
          have c21b0 : (a0_0 == 0) = true := beq_iff_eq.mpr c21
          have c21b1 : (a0_0 != 0) = false := bne_eq_false_iff_eq.mpr c21
          clear c21
          by_cases c22 : a1 = 86400000000
          · rw [if_pos c22] at H
            have c22b0 : (a1 == 86400000000) = true := beq_iff_eq.mpr c22
            have c22b1 : (a1 != 86400000000) = false := bne_eq_false_iff_eq.mpr c22
            clear c22
            replace H := Option.bind_eq_some_iff.mp H
            obtain ⟨t417, A230, H⟩ := H
            replace H : (if t417 = true then (some (0, wrap64 ((wrap64 ((wrap64 (a0_1 + 1)) * 86400000000))), 0)) else (some (0, 0, 10))) = some (r1, r2, r3) := H
            have A23 := Aside0.mk A230
            clear A230
            by_cases c24 : t417 = true
            · subst c24
              have H1 : (some (0, wrap64 ((wrap64 ((wrap64 (a0_1 + 1)) * 86400000000))), 0)) = some (r1, r2, r3) := by rw [if_pos rfl] at H; exact H
              clear H
              have H := H1
              clear H1
              simp only [Option.some.injEq, Prod.mk.injEq] at H
              obtain ⟨rfl, rfl, rfl⟩ := H
              have hnb25 := NB414_415.out
              have hnc25 := NB415_414.out
              have hcz26_0 : wc.cell? ⟨gb414, 0, none⟩ = some (.int .i64 a0_0) := (kI BK414.out 0).trans rfl
              have hcz26_1 : wc.cell? ⟨gb414, 1, none⟩ = some (.int .i64 a0_1) := (kI BK414.out 1).trans rfl
              have hfz26_0 := kH BK414.out 0
              have hfz26_1 := kH BK414.out 1
              go_wp2_with (first | ((with_reducible refine kM (f := 49) rfl ?_); refine kP (some 32) rfl rfl Tryz.func49 (by kernel_rfl) rfl #[.int .i64 (wrap64 (a0_1 + 1))] rfl (by (try simp only [List.map_toArray, List.map_cons, List.map_nil]); first | done | rfl | (simp only [List.length_drop, List.length_take]; rfl)) ?_; (with_reducible refine (computusref15_inside.calls kj2 (wrap64 (a0_1 + 1)) true _ A23.out).mono ?_); rintro e w' ⟨rfl, ⟨nd, rfl⟩⟩; refine ⟨_, rfl, ?_⟩; (try (rw [drewN_self wc]; generalize hq_ : World.drewN wc _ = wc; have n0_ : Aside0 (wc.heap[gb414]? = some (.cells #[.int .i64 a0_0, .int .i64 a0_1] 37 (0, 0))) := ⟨by rw [← hq_]; exact (by (with_reducible repeat (first | refine kF ?_ _ | refine kG ?_ | refine kE ?_ _)); exact BK414.out)⟩; have n1_ : Aside0 (wc.heap[gb415]? = some (.cells #[.int .i64 0, .int .i64 0] 23 (0, 0))) := ⟨by rw [← hq_]; exact (by (with_reducible repeat (first | refine kF ?_ _ | refine kG ?_ | refine kE ?_ _)); exact BK415.out)⟩; have n2_ : Aside0 (Below w.heap.size w wc) := ⟨by rw [← hq_]; exact (by repeat (first | (with_reducible first | exact HB.out | apply kC | apply kA | apply kB | refine kD ?_ GE414.out | refine kD ?_ GE415.out) | exact HB.out))⟩; clear BK414 BK415 HB hq_; have BK414 := n0_; have BK415 := n1_; have HB := n2_; clear n0_ n1_ n2_; (try have hcz20_0 : wc.cell? ⟨gb415, 0, none⟩ = some (.int .i64 0) := (kI BK415.out 0).trans rfl); (try have hcz20_1 : wc.cell? ⟨gb415, 1, none⟩ = some (.int .i64 0) := (kI BK415.out 1).trans rfl); (try have hcz26_0 : wc.cell? ⟨gb414, 0, none⟩ = some (.int .i64 a0_0) := (kI BK414.out 0).trans rfl); (try have hcz26_1 : wc.cell? ⟨gb414, 1, none⟩ = some (.int .i64 a0_1) := (kI BK414.out 1).trans rfl))); have hcz27_0 : wc.cell? ⟨gb415, 0, none⟩ = some (.int .i64 0) := (kI BK415.out 0).trans rfl; have hcz27_1 : wc.cell? ⟨gb415, 1, none⟩ = some (.int .i64 0) := (kI BK415.out 1).trans rfl; have hfz27_0 := kH BK415.out 0; have hfz27_1 := kH BK415.out 1))
              refine bodyPost_ret (results_ct rfl _ _ gb415 23 #[.int .i64 0, .int .i64 (wrap64 ((wrap64 ((wrap64 (a0_1 + 1)) * 86400000000))))] (0, 0) _ rfl (by (with_reducible repeat (first | refine kF ?_ _ | refine kG ?_ | refine kE ?_ _)); refine blk_put (cs := #[.int .i64 0, .int .i64 0]) ?_ 1 _ rfl; (with_reducible repeat (first | refine kF ?_ _ | refine kG ?_ | refine kE ?_ _)); refine blk_put (cs := #[.int .i64 0, .int .i64 0]) ?_ 0 _ rfl; (with_reducible repeat (first | refine kF ?_ _ | refine kG ?_ | refine kE ?_ _)); exact BK415.out) Tryz.underlying23 rfl (by kernel_rfl)) rfl ?_
              exact ⟨by first | rfl | (simp [errW_none, errW_some] <;> rfl) | (simp [*, errW_none, errW_some] <;> rfl), by repeat (first | (with_reducible first | exact HB.out | apply kC | apply kA | apply kB | refine kD ?_ GE414.out | refine kD ?_ GE415.out) | exact HB.out)⟩
            · replace c24 := Bool.eq_false_iff.mpr c24
              subst c24
              have H1 : (some (0, 0, 10)) = some (r1, r2, r3) := by rw [if_neg (show ¬ (false = true) by decide)] at H; exact H
              clear H
              have H := H1
              clear H1
              simp only [Option.some.injEq, Prod.mk.injEq] at H
              obtain ⟨rfl, rfl, rfl⟩ := H
              have hnb28 := NB414_415.out
              have hnc28 := NB415_414.out
              have hcz29_0 : wc.cell? ⟨gb414, 0, none⟩ = some (.int .i64 a0_0) := (kI BK414.out 0).trans rfl
              have hcz29_1 : wc.cell? ⟨gb414, 1, none⟩ = some (.int .i64 a0_1) := (kI BK414.out 1).trans rfl
              have hfz29_0 := kH BK414.out 0
              have hfz29_1 := kH BK414.out 1
              go_wp2_with (first | ((with_reducible refine kM (f := 49) rfl ?_); refine kP (some 32) rfl rfl Tryz.func49 (by kernel_rfl) rfl #[.int .i64 (wrap64 (a0_1 + 1))] rfl (by (try simp only [List.map_toArray, List.map_cons, List.map_nil]); first | done | rfl | (simp only [List.length_drop, List.length_take]; rfl)) ?_; (with_reducible refine (computusref15_inside.calls kj2 (wrap64 (a0_1 + 1)) false _ A23.out).mono ?_); rintro e w' ⟨rfl, ⟨nd, rfl⟩⟩; refine ⟨_, rfl, ?_⟩; (try (rw [drewN_self wc]; generalize hq_ : World.drewN wc _ = wc; have n0_ : Aside0 (wc.heap[gb414]? = some (.cells #[.int .i64 a0_0, .int .i64 a0_1] 37 (0, 0))) := ⟨by rw [← hq_]; exact (by (with_reducible repeat (first | refine kF ?_ _ | refine kG ?_ | refine kE ?_ _)); exact BK414.out)⟩; have n1_ : Aside0 (wc.heap[gb415]? = some (.cells #[.int .i64 0, .int .i64 0] 23 (0, 0))) := ⟨by rw [← hq_]; exact (by (with_reducible repeat (first | refine kF ?_ _ | refine kG ?_ | refine kE ?_ _)); exact BK415.out)⟩; have n2_ : Aside0 (Below w.heap.size w wc) := ⟨by rw [← hq_]; exact (by repeat (first | (with_reducible first | exact HB.out | apply kC | apply kA | apply kB | refine kD ?_ GE414.out | refine kD ?_ GE415.out) | exact HB.out))⟩; clear BK414 BK415 HB hq_; have BK414 := n0_; have BK415 := n1_; have HB := n2_; clear n0_ n1_ n2_; (try have hcz27_0 : wc.cell? ⟨gb415, 0, none⟩ = some (.int .i64 0) := (kI BK415.out 0).trans rfl); (try have hcz27_1 : wc.cell? ⟨gb415, 1, none⟩ = some (.int .i64 0) := (kI BK415.out 1).trans rfl); (try have hcz29_0 : wc.cell? ⟨gb414, 0, none⟩ = some (.int .i64 a0_0) := (kI BK414.out 0).trans rfl); (try have hcz29_1 : wc.cell? ⟨gb414, 1, none⟩ = some (.int .i64 a0_1) := (kI BK414.out 1).trans rfl))); have hcz30_0 : wc.cell? ⟨gb415, 0, none⟩ = some (.int .i64 0) := (kI BK415.out 0).trans rfl; have hcz30_1 : wc.cell? ⟨gb415, 1, none⟩ = some (.int .i64 0) := (kI BK415.out 1).trans rfl; have hfz30_0 := kH BK415.out 0; have hfz30_1 := kH BK415.out 1))
              refine bodyPost_ret (results_ct rfl _ _ gb415 23 #[.int .i64 0, .int .i64 0] (0, 0) _ rfl (by (with_reducible repeat (first | refine kF ?_ _ | refine kG ?_ | refine kE ?_ _)); refine blk_put (cs := #[.int .i64 0, .int .i64 0]) ?_ 1 _ rfl; (with_reducible repeat (first | refine kF ?_ _ | refine kG ?_ | refine kE ?_ _)); refine blk_put (cs := #[.int .i64 0, .int .i64 0]) ?_ 0 _ rfl; (with_reducible repeat (first | refine kF ?_ _ | refine kG ?_ | refine kE ?_ _)); exact BK415.out) Tryz.underlying23 rfl (by kernel_rfl)) rfl ?_
              exact ⟨by first | rfl | (simp [errW_none, errW_some] <;> rfl) | (simp [*, errW_none, errW_some] <;> rfl), by repeat (first | (with_reducible first | exact HB.out | apply kC | apply kA | apply kB | refine kD ?_ GE414.out | refine kD ?_ GE415.out) | exact HB.out)⟩
          · rw [if_neg c22] at H
            have c22b0 : (a1 == 86400000000) = false := beq_eq_false_iff_ne.mpr c22
            have c22b1 : (a1 != 86400000000) = true := bne_iff_ne.mpr c22
            replace H := Option.bind_eq_some_iff.mp H
            obtain ⟨t418, A310, H⟩ := H
            replace H : (if t418 = true then (some (0, wrap64 ((wrap64 (a0_1 * 86400000000)) + a1), 0)) else (some (0, 0, 10))) = some (r1, r2, r3) := H
            have A31 := Aside0.mk A310
            clear A310
            by_cases c32 : t418 = true
            · subst c32
              have H1 : (some (0, wrap64 ((wrap64 (a0_1 * 86400000000)) + a1), 0)) = some (r1, r2, r3) := by rw [if_pos rfl] at H; exact H
              clear H
              have H := H1
              clear H1
              simp only [Option.some.injEq, Prod.mk.injEq] at H
              obtain ⟨rfl, rfl, rfl⟩ := H
              have hnb33 := NB414_415.out
              have hnc33 := NB415_414.out
              have hcz34_0 : wc.cell? ⟨gb414, 0, none⟩ = some (.int .i64 a0_0) := (kI BK414.out 0).trans rfl
              have hcz34_1 : wc.cell? ⟨gb414, 1, none⟩ = some (.int .i64 a0_1) := (kI BK414.out 1).trans rfl
              have hfz34_0 := kH BK414.out 0
              have hfz34_1 := kH BK414.out 1
              go_wp2_with (first | ((with_reducible refine kM (f := 49) rfl ?_); refine kP (some 32) rfl rfl Tryz.func49 (by kernel_rfl) rfl #[.int .i64 a0_1] rfl (by (try simp only [List.map_toArray, List.map_cons, List.map_nil]); first | done | rfl | (simp only [List.length_drop, List.length_take]; rfl)) ?_; (with_reducible refine (computusref15_inside.calls kj2 a0_1 true _ A31.out).mono ?_); rintro e w' ⟨rfl, ⟨nd, rfl⟩⟩; refine ⟨_, rfl, ?_⟩; (try (rw [drewN_self wc]; generalize hq_ : World.drewN wc _ = wc; have n0_ : Aside0 (wc.heap[gb414]? = some (.cells #[.int .i64 a0_0, .int .i64 a0_1] 37 (0, 0))) := ⟨by rw [← hq_]; exact (by (with_reducible repeat (first | refine kF ?_ _ | refine kG ?_ | refine kE ?_ _)); exact BK414.out)⟩; have n1_ : Aside0 (wc.heap[gb415]? = some (.cells #[.int .i64 0, .int .i64 0] 23 (0, 0))) := ⟨by rw [← hq_]; exact (by (with_reducible repeat (first | refine kF ?_ _ | refine kG ?_ | refine kE ?_ _)); exact BK415.out)⟩; have n2_ : Aside0 (Below w.heap.size w wc) := ⟨by rw [← hq_]; exact (by repeat (first | (with_reducible first | exact HB.out | apply kC | apply kA | apply kB | refine kD ?_ GE414.out | refine kD ?_ GE415.out) | exact HB.out))⟩; clear BK414 BK415 HB hq_; have BK414 := n0_; have BK415 := n1_; have HB := n2_; clear n0_ n1_ n2_; (try have hcz30_0 : wc.cell? ⟨gb415, 0, none⟩ = some (.int .i64 0) := (kI BK415.out 0).trans rfl); (try have hcz30_1 : wc.cell? ⟨gb415, 1, none⟩ = some (.int .i64 0) := (kI BK415.out 1).trans rfl); (try have hcz34_0 : wc.cell? ⟨gb414, 0, none⟩ = some (.int .i64 a0_0) := (kI BK414.out 0).trans rfl); (try have hcz34_1 : wc.cell? ⟨gb414, 1, none⟩ = some (.int .i64 a0_1) := (kI BK414.out 1).trans rfl))); have hcz35_0 : wc.cell? ⟨gb415, 0, none⟩ = some (.int .i64 0) := (kI BK415.out 0).trans rfl; have hcz35_1 : wc.cell? ⟨gb415, 1, none⟩ = some (.int .i64 0) := (kI BK415.out 1).trans rfl; have hfz35_0 := kH BK415.out 0; have hfz35_1 := kH BK415.out 1))
              refine bodyPost_ret (results_ct rfl _ _ gb415 23 #[.int .i64 0, .int .i64 (wrap64 ((wrap64 (a0_1 * 86400000000)) + a1))] (0, 0) _ rfl (by (with_reducible repeat (first | refine kF ?_ _ | refine kG ?_ | refine kE ?_ _)); refine blk_put (cs := #[.int .i64 0, .int .i64 0]) ?_ 1 _ rfl; (with_reducible repeat (first | refine kF ?_ _ | refine kG ?_ | refine kE ?_ _)); refine blk_put (cs := #[.int .i64 0, .int .i64 0]) ?_ 0 _ rfl; (with_reducible repeat (first | refine kF ?_ _ | refine kG ?_ | refine kE ?_ _)); exact BK415.out) Tryz.underlying23 rfl (by kernel_rfl)) rfl ?_
              exact ⟨by first | rfl | (simp [errW_none, errW_some] <;> rfl) | (simp [*, errW_none, errW_some] <;> rfl), by repeat (first | (with_reducible first | exact HB.out | apply kC | apply kA | apply kB | refine kD ?_ GE414.out | refine kD ?_ GE415.out) | exact HB.out)⟩
            · replace c32 := Bool.eq_false_iff.mpr c32
              subst c32
              have H1 : (some (0, 0, 10)) = some (r1, r2, r3) := by rw [if_neg (show ¬ (false = true) by decide)] at H; exact H
              clear H
              have H := H1
              clear H1
              simp only [Option.some.injEq, Prod.mk.injEq] at H
              obtain ⟨rfl, rfl, rfl⟩ := H
              have hnb36 := NB414_415.out
              have hnc36 := NB415_414.out
              have hcz37_0 : wc.cell? ⟨gb414, 0, none⟩ = some (.int .i64 a0_0) := (kI BK414.out 0).trans rfl
              have hcz37_1 : wc.cell? ⟨gb414, 1, none⟩ = some (.int .i64 a0_1) := (kI BK414.out 1).trans rfl
              have hfz37_0 := kH BK414.out 0
              have hfz37_1 := kH BK414.out 1
              go_wp2_with (first | ((with_reducible refine kM (f := 49) rfl ?_); refine kP (some 32) rfl rfl Tryz.func49 (by kernel_rfl) rfl #[.int .i64 a0_1] rfl (by (try simp only [List.map_toArray, List.map_cons, List.map_nil]); first | done | rfl | (simp only [List.length_drop, List.length_take]; rfl)) ?_; (with_reducible refine (computusref15_inside.calls kj2 a0_1 false _ A31.out).mono ?_); rintro e w' ⟨rfl, ⟨nd, rfl⟩⟩; refine ⟨_, rfl, ?_⟩; (try (rw [drewN_self wc]; generalize hq_ : World.drewN wc _ = wc; have n0_ : Aside0 (wc.heap[gb414]? = some (.cells #[.int .i64 a0_0, .int .i64 a0_1] 37 (0, 0))) := ⟨by rw [← hq_]; exact (by (with_reducible repeat (first | refine kF ?_ _ | refine kG ?_ | refine kE ?_ _)); exact BK414.out)⟩; have n1_ : Aside0 (wc.heap[gb415]? = some (.cells #[.int .i64 0, .int .i64 0] 23 (0, 0))) := ⟨by rw [← hq_]; exact (by (with_reducible repeat (first | refine kF ?_ _ | refine kG ?_ | refine kE ?_ _)); exact BK415.out)⟩; have n2_ : Aside0 (Below w.heap.size w wc) := ⟨by rw [← hq_]; exact (by repeat (first | (with_reducible first | exact HB.out | apply kC | apply kA | apply kB | refine kD ?_ GE414.out | refine kD ?_ GE415.out) | exact HB.out))⟩; clear BK414 BK415 HB hq_; have BK414 := n0_; have BK415 := n1_; have HB := n2_; clear n0_ n1_ n2_; (try have hcz35_0 : wc.cell? ⟨gb415, 0, none⟩ = some (.int .i64 0) := (kI BK415.out 0).trans rfl); (try have hcz35_1 : wc.cell? ⟨gb415, 1, none⟩ = some (.int .i64 0) := (kI BK415.out 1).trans rfl); (try have hcz37_0 : wc.cell? ⟨gb414, 0, none⟩ = some (.int .i64 a0_0) := (kI BK414.out 0).trans rfl); (try have hcz37_1 : wc.cell? ⟨gb414, 1, none⟩ = some (.int .i64 a0_1) := (kI BK414.out 1).trans rfl))); have hcz38_0 : wc.cell? ⟨gb415, 0, none⟩ = some (.int .i64 0) := (kI BK415.out 0).trans rfl; have hcz38_1 : wc.cell? ⟨gb415, 1, none⟩ = some (.int .i64 0) := (kI BK415.out 1).trans rfl; have hfz38_0 := kH BK415.out 0; have hfz38_1 := kH BK415.out 1))
              refine bodyPost_ret (results_ct rfl _ _ gb415 23 #[.int .i64 0, .int .i64 0] (0, 0) _ rfl (by (with_reducible repeat (first | refine kF ?_ _ | refine kG ?_ | refine kE ?_ _)); refine blk_put (cs := #[.int .i64 0, .int .i64 0]) ?_ 1 _ rfl; (with_reducible repeat (first | refine kF ?_ _ | refine kG ?_ | refine kE ?_ _)); refine blk_put (cs := #[.int .i64 0, .int .i64 0]) ?_ 0 _ rfl; (with_reducible repeat (first | refine kF ?_ _ | refine kG ?_ | refine kE ?_ _)); exact BK415.out) Tryz.underlying23 rfl (by kernel_rfl)) rfl ?_
              exact ⟨by first | rfl | (simp [errW_none, errW_some] <;> rfl) | (simp [*, errW_none, errW_some] <;> rfl), by repeat (first | (with_reducible first | exact HB.out | apply kC | apply kA | apply kB | refine kD ?_ GE414.out | refine kD ?_ GE415.out) | exact HB.out)⟩
        · rw [if_neg c21] at H
          have c21b0 : (a0_0 == 0) = false := beq_eq_false_iff_ne.mpr c21
          have c21b1 : (a0_0 != 0) = true := bne_iff_ne.mpr c21
          simp only [Option.some.injEq, Prod.mk.injEq] at H
          obtain ⟨rfl, rfl, rfl⟩ := H
          have hnb39 := NB414_415.out
          have hnc39 := NB415_414.out
          have hcz40_0 : wc.cell? ⟨gb414, 0, none⟩ = some (.int .i64 a0_0) := (kI BK414.out 0).trans rfl
          have hcz40_1 : wc.cell? ⟨gb414, 1, none⟩ = some (.int .i64 a0_1) := (kI BK414.out 1).trans rfl
          have hfz40_0 := kH BK414.out 0
          have hfz40_1 := kH BK414.out 1
          have hcz41_0 : wc.cell? ⟨gb415, 0, none⟩ = some (.int .i64 0) := (kI BK415.out 0).trans rfl
          have hcz41_1 : wc.cell? ⟨gb415, 1, none⟩ = some (.int .i64 0) := (kI BK415.out 1).trans rfl
          have hfz41_0 := kH BK415.out 0
          have hfz41_1 := kH BK415.out 1
          go_wp2
          refine bodyPost_ret (results_ct rfl _ _ gb415 23 #[.int .i64 a0_0, .int .i64 0] (0, 0) _ rfl (by (with_reducible repeat (first | refine kF ?_ _ | refine kG ?_ | refine kE ?_ _)); refine blk_put (cs := #[.int .i64 a0_0, .int .i64 0]) ?_ 1 _ rfl; (with_reducible repeat (first | refine kF ?_ _ | refine kG ?_ | refine kE ?_ _)); refine blk_put (cs := #[.int .i64 0, .int .i64 0]) ?_ 0 _ rfl; (with_reducible repeat (first | refine kF ?_ _ | refine kG ?_ | refine kE ?_ _)); exact BK415.out) Tryz.underlying23 rfl (by kernel_rfl)) rfl ?_
          exact ⟨by first | rfl | (simp [errW_none, errW_some] <;> rfl) | (simp [*, errW_none, errW_some] <;> rfl), by repeat (first | (with_reducible first | exact HB.out | apply kC | apply kA | apply kB | refine kD ?_ GE414.out | refine kD ?_ GE415.out) | exact HB.out)⟩
end Go.Proofs.YthkmckmfgglafaaGreat.P
namespace Go.Proofs.YthkmckmfgglafaaGreat.P
open Go.RowKit Go.Proofs.YthkmckmfgglafaaGreatW.PrintWords Go.Proofs.YthkmckmfgglafaaGreatW.PrintLast Go.Proofs.YthkmckmfgglafaaGreatW.PrintMore
attribute [local go_sem] max2_int min2_int max_two min_two max_three min_three max_four min_four   -- for this text's walks alone
set_option linter.unusedVariables false
set_option linter.unusedSimpArgs false
mutual
def computusref01_Small.l0 : Nat → Int → Bool → List Int → Option (Int × Int)
  | 0, _, _, _ => none
  | k + 1, x4, x429000, x429001 => if x4 < 6 then (if 0 ≤ x4 then (if x4 < (x429001.length : Int) then (if (rd x429001 x4) = 0 then (computusref01_Small.l0 k (wrap64 (x4 + 1)) x429000 x429001) else (some (0, 10))) else (none)) else (none)) else (if 1 < (x429001.length : Int) then (if 0 < (x429001.length : Int) then (if x429000 = true then (computusref01_Small.j1 k (Go.bits .or .u64 (IntKind.u64.wrap ((rd x429001 1) * 4294967296)) (rd x429001 0)) (decide ((Go.bits .or .u64 (IntKind.u64.wrap ((rd x429001 1) * 4294967296)) (rd x429001 0)) ≤ 9223372036854775808)) x429000 x429001) else (computusref01_Small.j1 k (Go.bits .or .u64 (IntKind.u64.wrap ((rd x429001 1) * 4294967296)) (rd x429001 0)) false x429000 x429001)) else (none)) else (none))
def computusref01_Small.j1 : Nat → Int → Bool → Bool → List Int → Option (Int × Int)
  | 0, _, _, _, _ => none
  | k + 1, x5, x31, x429000, x429001 => if x31 = true then (some (wrap64 (IntKind.u64.wrap (-x5)), 0)) else (if x429000 = true then (some (0, 10)) else (if x5 ≥ 9223372036854775808 then (some (0, 10)) else (some (wrap64 (x5), 0))))
end
def computusref01_Small.f (k : Nat) (a0_0 : Bool) (l0_1 : List Int) : Option (Int × Int) := computusref01_Small.l0 k 2 a0_0 l0_1
theorem computusref01_Small.mono_l : ∀ k, (∀ y0 y1 y2, LeO (computusref01_Small.l0 k y0 y1 y2) (computusref01_Small.l0 (k + 1) y0 y1 y2)) ∧ (∀ y0 y1 y2 y3, LeO (computusref01_Small.j1 k y0 y1 y2 y3) (computusref01_Small.j1 (k + 1) y0 y1 y2 y3))
  | 0 => ⟨fun _ _ _ r h => by simp [computusref01_Small.l0] at h, fun _ _ _ _ r h => by simp [computusref01_Small.j1] at h⟩
  | k + 1 => by
    obtain ⟨ih0, ih1⟩ := computusref01_Small.mono_l k
    refine ⟨?_, ?_⟩
    · intro y0 y1 y2
      unfold computusref01_Small.l0
      repeat' first
      | (with_reducible exact ih0 _ _ _)
      | (with_reducible exact ih1 _ _ _ _)
      | (with_reducible exact LeO.refl _)
      | (with_reducible exact LeO.none _)
      | (with_reducible refine LeO.ite ?_ ?_)
      | (with_reducible refine LeO.bind ?_ (fun _ => ?_))
      | exact ih0 _ _ _
      | exact ih1 _ _ _ _
      | exact LeO.none _
      | refine LeO.ite ?_ ?_
      | refine LeO.bind ?_ (fun _ => ?_)
    · intro y0 y1 y2 y3
      unfold computusref01_Small.j1
      repeat' first
      | (with_reducible exact ih0 _ _ _)
      | (with_reducible exact ih1 _ _ _ _)
      | (with_reducible exact LeO.refl _)
      | (with_reducible exact LeO.none _)
      | (with_reducible refine LeO.ite ?_ ?_)
      | (with_reducible refine LeO.bind ?_ (fun _ => ?_))
      | exact ih0 _ _ _
      | exact ih1 _ _ _ _
      | exact LeO.none _
      | refine LeO.ite ?_ ?_
      | refine LeO.bind ?_ (fun _ => ?_)
theorem computusref01_Small.mono : ∀ a0 a1 k, LeO (computusref01_Small.f k a0 a1) (computusref01_Small.f (k + 1) a0 a1) := by
  intro a0 a1 k
  obtain ⟨ih0, ih1⟩ := computusref01_Small.mono_l k
  unfold computusref01_Small.f
  repeat' first
      | (with_reducible exact ih0 _ _ _)
      | (with_reducible exact ih1 _ _ _ _)
      | (with_reducible exact LeO.refl _)
      | (with_reducible exact LeO.none _)
      | (with_reducible refine LeO.ite ?_ ?_)
      | (with_reducible refine LeO.bind ?_ (fun _ => ?_))
      | exact ih0 _ _ _
      | exact ih1 _ _ _ _
      | exact LeO.none _
      | refine LeO.ite ?_ ?_
      | refine LeO.bind ?_ (fun _ => ?_)
set_option maxHeartbeats 8000000 in
set_option maxRecDepth 100000 in
theorem computusref01_Small.calls (k : Nat) (a0_0 : Bool) (A0_1 : Option Addr) (c0_1 : Nat) (l0_1 : List Int) (r1 : Int) (r2 : Int) (w : World) (hr0_1 : Kd.C (Kd.int .u64) w A0_1 l0_1.length l0_1) (hc0_1 : l0_1.length ≤ c0_1) (h : computusref01_Small.f k a0_0 l0_1 = some (r1, r2)) :
    Calls Tryz.prog 135 #[.agg #[.bool a0_0, .slice A0_1 l0_1.length c0_1]] w fun e w' => e = .returned (.tuple #[.int .i64 r1, .int .i64 r2]) ∧ Below w.heap.size w w' := by
  have hu175 := Tryz.underlying175
  have HR0_1 := Aside0.mk hr0_1
  have HC0_1 := Aside0.mk hc0_1
  clear hr0_1 hc0_1
  have HB := Aside0.mk (Below.refl w.heap.size w)
  have H : (computusref01_Small.l0 k 2 a0_0 l0_1) = some (r1, r2) := h
  clear h
  have H' := Aside0.mk H
  clear H
  go_enter Tryz.func135, Tryz.ntmps135
  go_wp2_with (first | ((with_reducible refine kN (N := 1) rfl ?_); refine kO ?hg (N := 1) ?hd (cs := #[.bool a0_0, .slice A0_1 l0_1.length c0_1]) (t := 175) ?hr ?_; (case hd => rfl); (case hg => rfl); (case hr => first | (go_simp; done) | (go_simp; rfl)); intro gb428 hg w2 hbox hb; have n0_ := Aside0.mk (kK (by repeat (first | (with_reducible first | exact HB.out | apply kC | apply kA | apply kB) | exact HB.out)) hb); have n1_ := Aside0.mk (hbox); have n2_ := Aside0.mk ((by rw [hg]; exact (kJ (by repeat (first | (with_reducible first | exact HB.out | apply kC | apply kA | apply kB) | exact HB.out))) : w.heap.size ≤ gb428)); have n3_ := Aside0.mk ((by rw [hg]; exact (kJ (by repeat (first | (with_reducible first | exact HB.out | apply kC | apply kA | apply kB) | exact HB.out))) : w.heap.size ≤ gb428)); clear HB; have HB := n0_; have BK428 := n1_; have GW428 := n2_; have GE428 := n3_; clear n0_ n1_ n2_ n3_; clear hb hbox hg))
  repeat (go_quiet (first | ((with_reducible refine kN (N := 1) rfl ?_); refine kO ?hg (N := 1) ?hd (cs := #[.bool a0_0, .slice A0_1 l0_1.length c0_1]) (t := 175) ?hr ?_; (case hd => rfl); (case hg => rfl); (case hr => first | (go_simp; done) | (go_simp; rfl)); intro gb428 hg w2 hbox hb; have n0_ := Aside0.mk (kK (by repeat (first | (with_reducible first | exact HB.out | apply kC | apply kA | apply kB) | exact HB.out)) hb); have n1_ := Aside0.mk (hbox); have n2_ := Aside0.mk ((by rw [hg]; exact (kJ (by repeat (first | (with_reducible first | exact HB.out | apply kC | apply kA | apply kB) | exact HB.out))) : w.heap.size ≤ gb428)); have n3_ := Aside0.mk ((by rw [hg]; exact (kJ (by repeat (first | (with_reducible first | exact HB.out | apply kC | apply kA | apply kB) | exact HB.out))) : w.heap.size ≤ gb428)); clear HB; have HB := n0_; have BK428 := n1_; have GW428 := n2_; have GE428 := n3_; clear n0_ n1_ n2_ n3_; clear hb hbox hg)); try go_wp2_with (first | ((with_reducible refine kN (N := 1) rfl ?_); refine kO ?hg (N := 1) ?hd (cs := #[.bool a0_0, .slice A0_1 l0_1.length c0_1]) (t := 175) ?hr ?_; (case hd => rfl); (case hg => rfl); (case hr => first | (go_simp; done) | (go_simp; rfl)); intro gb428 hg w2 hbox hb; have n0_ := Aside0.mk (kK (by repeat (first | (with_reducible first | exact HB.out | apply kC | apply kA | apply kB) | exact HB.out)) hb); have n1_ := Aside0.mk (hbox); have n2_ := Aside0.mk ((by rw [hg]; exact (kJ (by repeat (first | (with_reducible first | exact HB.out | apply kC | apply kA | apply kB) | exact HB.out))) : w.heap.size ≤ gb428)); have n3_ := Aside0.mk ((by rw [hg]; exact (kJ (by repeat (first | (with_reducible first | exact HB.out | apply kC | apply kA | apply kB) | exact HB.out))) : w.heap.size ≤ gb428)); clear HB; have HB := n0_; have BK428 := n1_; have GW428 := n2_; have GE428 := n3_; clear n0_ n1_ n2_ n3_; clear hb hbox hg)))
  go_loopg [4] k (fun kq v4 w' => ∃ (x4_1 : Int), v4 = .int .i64 x4_1 ∧ Aside0 (computusref01_Small.l0 kq x4_1 a0_0 l0_1 = some (r1, r2)) ∧ Aside0 (kq ≤ k) ∧ Aside0 (w'.heap[gb428]? = some (.cells #[.bool a0_0, (.slice A0_1 l0_1.length c0_1)] 175 (0, 0))) ∧ Aside0 (Below w.heap.size w w'))
  case atStart => exact ⟨(2), (by first | rfl | (simp; done) | (simp [*]; done)), H', ⟨Nat.le_refl _⟩, ⟨by (with_reducible repeat (first | refine kF ?_ _ | refine kG ?_ | refine kE ?_ _)); exact BK428.out⟩, ⟨by repeat (first | (with_reducible first | exact HB.out | apply kC | apply kA | apply kB | refine kD ?_ GE428.out) | exact HB.out)⟩⟩
  case round =>
    clear H'
    try clear c1
    try clear p2
    obtain ⟨x4_1, rfl, HA, HK1, BK428, HB⟩ := hrel
    cases gk with
    | zero => exact absurd HA.out (by simp [computusref01_Small.l0])
    | succ k1 =>
      have H := HA.out
      clear HA
      simp only [computusref01_Small.l0] at H
      by_cases c3 : x4_1 < 6
      · rw [if_pos c3] at H
        have c3b0 : decide (x4_1 < 6) = true := decide_eq_true c3
        clear c3
        by_cases c4 : 0 ≤ x4_1
        · rw [if_pos c4] at H
          have c4b0 : decide (0 ≤ x4_1) = true := decide_eq_true c4
          clear c4
          by_cases c5 : x4_1 < (l0_1.length : Int)
          · rw [if_pos c5] at H
            have c5b0 : decide (x4_1 < (l0_1.length : Int)) = true := decide_eq_true c5
            clear c5
            by_cases c6 : (rd l0_1 x4_1) = 0
            · rw [if_pos c6] at H
              have c6b0 : ((rd l0_1 x4_1) == 0) = true := beq_iff_eq.mpr c6
              have c6b1 : ((rd l0_1 x4_1) != 0) = false := bne_eq_false_iff_eq.mpr c6
              clear c6
              have H' := Aside0.mk H
              clear H
              have hcz7_0 : wr.cell? ⟨gb428, 0, none⟩ = some (.bool a0_0) := (kI BK428.out 0).trans rfl
              have hcz7_1 : wr.cell? ⟨gb428, 1, none⟩ = some (.slice A0_1 l0_1.length c0_1) := (kI BK428.out 1).trans rfl
              have hfz7_0 := kH BK428.out 0
              have hfz7_1 := kH BK428.out 1
              have p429 : 0 ≤ (x4_1 : Int) := of_decide_eq_true (by first | (with_reducible assumption) | assumption)
              have q429 : x4_1 < (l0_1.length : Int) := of_decide_eq_true (by first | (with_reducible assumption) | assumption)
              obtain ⟨ad429, e429, hx429_0⟩ := Kd.at_int HR0_1.out x4_1 p429 q429
              cases e429
              replace hx429_0 := (HB.out.cell (World.block_lt_of_cell? w _ hx429_0)).trans hx429_0
              replace p429 := eq_true p429
              replace q429 := eq_true q429
              go_wp2
              repeat (go_quiet (fail); try go_wp2)
              go_roundg k1
              case measure => have := HK1.out; omega
              case rel => exact ⟨(wrap64 (x4_1 + 1)), (by first | rfl | (simp; done) | (simp [*]; done)), H', ⟨by have := HK1.out; omega⟩, ⟨by (with_reducible repeat (first | refine kF ?_ _ | refine kG ?_ | refine kE ?_ _)); exact BK428.out⟩, ⟨by repeat (first | (with_reducible first | exact HB.out | apply kC | apply kA | apply kB | refine kD ?_ GE428.out) | exact HB.out)⟩⟩
            · rw [if_neg c6] at H
              have c6b0 : ((rd l0_1 x4_1) == 0) = false := beq_eq_false_iff_ne.mpr c6
              have c6b1 : ((rd l0_1 x4_1) != 0) = true := bne_iff_ne.mpr c6
              simp only [Option.some.injEq, Prod.mk.injEq] at H
              obtain ⟨rfl, rfl⟩ := H
              have hcz8_0 : wr.cell? ⟨gb428, 0, none⟩ = some (.bool a0_0) := (kI BK428.out 0).trans rfl
              have hcz8_1 : wr.cell? ⟨gb428, 1, none⟩ = some (.slice A0_1 l0_1.length c0_1) := (kI BK428.out 1).trans rfl
              have hfz8_0 := kH BK428.out 0
              have hfz8_1 := kH BK428.out 1
              have p429 : 0 ≤ (x4_1 : Int) := of_decide_eq_true (by first | (with_reducible assumption) | assumption)
              have q429 : x4_1 < (l0_1.length : Int) := of_decide_eq_true (by first | (with_reducible assumption) | assumption)
              obtain ⟨ad429, e429, hx429_0⟩ := Kd.at_int HR0_1.out x4_1 p429 q429
              cases e429
              replace hx429_0 := (HB.out.cell (World.block_lt_of_cell? w _ hx429_0)).trans hx429_0
              replace p429 := eq_true p429
              replace q429 := eq_true q429
              go_wp2
              repeat (go_quiet (fail); try go_wp2)
              go_ret2
              exact ⟨by first | rfl | (simp [errW_none, errW_some] <;> rfl) | (simp [*, errW_none, errW_some] <;> rfl), by repeat (first | (with_reducible first | exact HB.out | apply kC | apply kA | apply kB | refine kD ?_ GE428.out) | exact HB.out)⟩
          · rw [if_neg c5] at H
            exact absurd H (by simp)
        · rw [if_neg c4] at H
          exact absurd H (by simp)
      · rw [if_neg c3] at H
        have c3b0 : decide (x4_1 < 6) = false := decide_eq_false c3
        clear c3
        by_cases c9 : 1 < (l0_1.length : Int)
        · rw [if_pos c9] at H
          have c9b0 : decide (1 < (l0_1.length : Int)) = true := decide_eq_true c9
          have c9b1 : decide (1 < l0_1.length) = true := decide_eq_true (by omega)
          clear c9
          by_cases c10 : 0 < (l0_1.length : Int)
          · rw [if_pos c10] at H
            have c10b0 : decide (0 < (l0_1.length : Int)) = true := decide_eq_true c10
            have c10b1 : decide (0 < l0_1.length) = true := decide_eq_true (by omega)
            clear c10
            have HC11 := Aside0.mk H
            clear H
            have hcz12_0 : wr.cell? ⟨gb428, 0, none⟩ = some (.bool a0_0) := (kI BK428.out 0).trans rfl
            have hcz12_1 : wr.cell? ⟨gb428, 1, none⟩ = some (.slice A0_1 l0_1.length c0_1) := (kI BK428.out 1).trans rfl
            have hfz12_0 := kH BK428.out 0
            have hfz12_1 := kH BK428.out 1
            have p430 : 0 ≤ (1 : Int) := (by omega)
            have q430 : 1 < (l0_1.length : Int) := of_decide_eq_true (by first | (with_reducible assumption) | assumption)
            obtain ⟨ad430, e430, hx430_0⟩ := Kd.at_int HR0_1.out 1 p430 q430
            cases e430
            (try simp only [show (1 : Int).toNat = 1 from rfl, Nat.reduceMul, Nat.reduceEqDiff, Go.Addr.add, ↓reduceIte] at hx430_0)
            have qi430 : (1 < l0_1.length) = True := eq_true (by omega)
            (try rw [show ((1 : Int)).toNat = 1 from rfl] at hx430_0)
            replace hx430_0 := (HB.out.cell (World.block_lt_of_cell? w _ hx430_0)).trans hx430_0
            replace p430 := eq_true p430
            replace q430 := eq_true q430
            have p431 : 0 ≤ (0 : Int) := (by omega)
            have q431 : 0 < (l0_1.length : Int) := of_decide_eq_true (by first | (with_reducible assumption) | assumption)
            obtain ⟨ad431, e431, hx431_0⟩ := Kd.at_int HR0_1.out 0 p431 q431
            obtain rfl : ad430 = ad431 := (by injection e431)
            have qi431 : (0 < l0_1.length) = True := eq_true (by omega)
            (try rw [show ((0 : Int)).toNat = 0 from rfl] at hx431_0)
            (try rw [Addr.add_zero'] at hx431_0)
            replace hx431_0 := (HB.out.cell (World.block_lt_of_cell? w _ hx431_0)).trans hx431_0
            replace p431 := eq_true p431
            replace q431 := eq_true q431
            go_upto_region 7 with (fail)
            repeat (go_quiet (fail); go_upto_region 7 with (fail))
            go_cut [31] (fun v31 wc => ∃ (kq : Nat) (x31_10 : Bool), v31 = .bool x31_10 ∧ Aside0 (computusref01_Small.j1 kq (Go.bits .or .u64 (IntKind.u64.wrap ((rd l0_1 1) * 4294967296)) (rd l0_1 0)) x31_10 a0_0 l0_1 = some (r1, r2)) ∧ Aside0 (kq ≤ k1) ∧ Aside0 (wc.heap[gb428]? = some (.cells #[.bool a0_0, (.slice (some ad430) l0_1.length c0_1)] 175 (0, 0))) ∧ Aside0 (Below w.heap.size w wc))
            case first =>
              have H := HC11.out
              clear HC11
              by_cases c13 : a0_0 = true
              · subst c13
                have H1 : (computusref01_Small.j1 k1 (Go.bits .or .u64 (IntKind.u64.wrap ((rd l0_1 1) * 4294967296)) (rd l0_1 0)) (decide ((Go.bits .or .u64 (IntKind.u64.wrap ((rd l0_1 1) * 4294967296)) (rd l0_1 0)) ≤ 9223372036854775808)) true l0_1) = some (r1, r2) := by rw [if_pos rfl] at H; exact H
                clear H
                have H := H1
                clear H1
                have H' := Aside0.mk H
                clear H
                have hcz14_0 : wr.cell? ⟨gb428, 0, none⟩ = some (.bool true) := (kI BK428.out 0).trans rfl
                have hcz14_1 : wr.cell? ⟨gb428, 1, none⟩ = some (.slice (some ad430) l0_1.length c0_1) := (kI BK428.out 1).trans rfl
                have hfz14_0 := kH BK428.out 0
                have hfz14_1 := kH BK428.out 1
                go_wp2
                repeat (go_quiet (fail); try go_wp2)
                go_meet
                case rel => exact ⟨_, (decide ((Go.bits .or .u64 (IntKind.u64.wrap ((rd l0_1 1) * 4294967296)) (rd l0_1 0)) ≤ 9223372036854775808)), (by first | rfl | (simp; done) | (simp [*]; done)), H', ⟨by have := HK1.out; first | omega | exact Nat.le_refl _⟩, ⟨by (with_reducible repeat (first | refine kF ?_ _ | refine kG ?_ | refine kE ?_ _)); exact BK428.out⟩, ⟨by repeat (first | (with_reducible first | exact HB.out | apply kC | apply kA | apply kB | refine kD ?_ GE428.out) | exact HB.out)⟩⟩
              · replace c13 := Bool.eq_false_iff.mpr c13
                subst c13
                have H1 : (computusref01_Small.j1 k1 (Go.bits .or .u64 (IntKind.u64.wrap ((rd l0_1 1) * 4294967296)) (rd l0_1 0)) false false l0_1) = some (r1, r2) := by rw [if_neg (show ¬ (false = true) by decide)] at H; exact H
                clear H
                have H := H1
                clear H1
                have H' := Aside0.mk H
                clear H
                have hcz15_0 : wr.cell? ⟨gb428, 0, none⟩ = some (.bool false) := (kI BK428.out 0).trans rfl
                have hcz15_1 : wr.cell? ⟨gb428, 1, none⟩ = some (.slice (some ad430) l0_1.length c0_1) := (kI BK428.out 1).trans rfl
                have hfz15_0 := kH BK428.out 0
                have hfz15_1 := kH BK428.out 1
                go_wp2
                repeat (go_quiet (fail); try go_wp2)
                go_meet
                case rel => exact ⟨_, (false), (by first | rfl | (simp; done) | (simp [*]; done)), H', ⟨by have := HK1.out; first | omega | exact Nat.le_refl _⟩, ⟨by (with_reducible repeat (first | refine kF ?_ _ | refine kG ?_ | refine kE ?_ _)); exact BK428.out⟩, ⟨by repeat (first | (with_reducible first | exact HB.out | apply kC | apply kA | apply kB | refine kD ?_ GE428.out) | exact HB.out)⟩⟩
            case rest =>
              clear HC11
              try clear c1
              try clear p2
              try clear c3
              try clear c3b0
              try clear c4
              try clear c4b0
              try clear p4
              try clear q4
              try clear hx4
              try clear qi4
              try clear c5
              try clear c5b0
              try clear c6
              try clear c6b0
              try clear c6b1
              try clear p6
              try clear c9
              try clear c9b0
              try clear c9b1
              try clear c10
              try clear c10b0
              try clear c10b1
              try clear c13
              try clear hcz12_0
              try clear hcz12_1
              try clear hcz14_0
              try clear hcz14_1
              try clear hcz15_0
              try clear hcz15_1
              try clear hcz7_0
              try clear hcz7_1
              try clear hcz8_0
              try clear hcz8_1
              try clear hfz12_0
              try clear hfz12_1
              try clear hfz14_0
              try clear hfz14_1
              try clear hfz15_0
              try clear hfz15_1
              try clear hfz7_0
              try clear hfz7_1
              try clear hfz8_0
              try clear hfz8_1
              try clear hx429_0
              try clear hx430_0
              try clear hx431_0
              try clear p2
              try clear p429
              try clear p430
              try clear p431
              try clear q429
              try clear q430
              try clear q431
              obtain ⟨kq, x31_10, rfl, HA, HJ10, BK428, HB⟩ := hcut
              cases kq with
              | zero => exact absurd HA.out (by simp [computusref01_Small.j1])
              | succ kj10 =>
                have H := HA.out
                clear HA
                simp only [computusref01_Small.j1] at H
                by_cases c16 : x31_10 = true
                · subst c16
                  have H1 : (some (wrap64 (IntKind.u64.wrap (-(Go.bits .or .u64 (IntKind.u64.wrap ((rd l0_1 1) * 4294967296)) (rd l0_1 0)))), 0)) = some (r1, r2) := by rw [if_pos rfl] at H; exact H
                  clear H
                  have H := H1
                  clear H1
                  simp only [Option.some.injEq, Prod.mk.injEq] at H
                  obtain ⟨rfl, rfl⟩ := H
                  go_wp2
                  repeat (go_quiet (fail); try go_wp2)
                  go_ret2
                  exact ⟨by first | rfl | (simp [errW_none, errW_some] <;> rfl) | (simp [*, errW_none, errW_some] <;> rfl), by repeat (first | (with_reducible first | exact HB.out | apply kC | apply kA | apply kB | refine kD ?_ GE428.out) | exact HB.out)⟩
                · replace c16 := Bool.eq_false_iff.mpr c16
                  subst c16
                  have H1 : (if a0_0 = true then (some (0, 10)) else (if (Go.bits .or .u64 (IntKind.u64.wrap ((rd l0_1 1) * 4294967296)) (rd l0_1 0)) ≥ 9223372036854775808 then (some (0, 10)) else (some (wrap64 ((Go.bits .or .u64 (IntKind.u64.wrap ((rd l0_1 1) * 4294967296)) (rd l0_1 0))), 0)))) = some (r1, r2) := by rw [if_neg (show ¬ (false = true) by decide)] at H; exact H
                  clear H
                  have H := H1
                  clear H1
                  by_cases c17 : a0_0 = true
                  · subst c17
                    have H1 : (some (0, 10)) = some (r1, r2) := by rw [if_pos rfl] at H; exact H
                    clear H
                    have H := H1
                    clear H1
                    simp only [Option.some.injEq, Prod.mk.injEq] at H
                    obtain ⟨rfl, rfl⟩ := H
                    have hcz18_0 : wc.cell? ⟨gb428, 0, none⟩ = some (.bool true) := (kI BK428.out 0).trans rfl
                    have hcz18_1 : wc.cell? ⟨gb428, 1, none⟩ = some (.slice (some ad430) l0_1.length c0_1) := (kI BK428.out 1).trans rfl
                    have hfz18_0 := kH BK428.out 0
                    have hfz18_1 := kH BK428.out 1
                    go_wp2
                    repeat (go_quiet (fail); try go_wp2)
                    go_ret2
                    exact ⟨by first | rfl | (simp [errW_none, errW_some] <;> rfl) | (simp [*, errW_none, errW_some] <;> rfl), by repeat (first | (with_reducible first | exact HB.out | apply kC | apply kA | apply kB | refine kD ?_ GE428.out) | exact HB.out)⟩
                  · replace c17 := Bool.eq_false_iff.mpr c17
                    subst c17
                    have H1 : (if (Go.bits .or .u64 (IntKind.u64.wrap ((rd l0_1 1) * 4294967296)) (rd l0_1 0)) ≥ 9223372036854775808 then (some (0, 10)) else (some (wrap64 ((Go.bits .or .u64 (IntKind.u64.wrap ((rd l0_1 1) * 4294967296)) (rd l0_1 0))), 0))) = some (r1, r2) := by rw [if_neg (show ¬ (false = true) by decide)] at H; exact H
                    clear H
                    have H := H1
                    clear H1
                    by_cases c19 : (Go.bits .or .u64 (IntKind.u64.wrap ((rd l0_1 1) * 4294967296)) (rd l0_1 0)) ≥ 9223372036854775808
                    · rw [if_pos c19] at H
                      have c19b0 : decide (9223372036854775808 ≤ (Go.bits .or .u64 (IntKind.u64.wrap ((rd l0_1 1) * 4294967296)) (rd l0_1 0))) = true := decide_eq_true c19
                      clear c19
                      simp only [Option.some.injEq, Prod.mk.injEq] at H
                      obtain ⟨rfl, rfl⟩ := H
                      have hcz20_0 : wc.cell? ⟨gb428, 0, none⟩ = some (.bool false) := (kI BK428.out 0).trans rfl
                      have hcz20_1 : wc.cell? ⟨gb428, 1, none⟩ = some (.slice (some ad430) l0_1.length c0_1) := (kI BK428.out 1).trans rfl
                      have hfz20_0 := kH BK428.out 0
                      have hfz20_1 := kH BK428.out 1
                      go_wp2
                      repeat (go_quiet (fail); try go_wp2)
                      go_ret2
                      exact ⟨by first | rfl | (simp [errW_none, errW_some] <;> rfl) | (simp [*, errW_none, errW_some] <;> rfl), by repeat (first | (with_reducible first | exact HB.out | apply kC | apply kA | apply kB | refine kD ?_ GE428.out) | exact HB.out)⟩
                    · rw [if_neg c19] at H
                      have c19b0 : decide (9223372036854775808 ≤ (Go.bits .or .u64 (IntKind.u64.wrap ((rd l0_1 1) * 4294967296)) (rd l0_1 0))) = false := decide_eq_false c19
                      clear c19
                      simp only [Option.some.injEq, Prod.mk.injEq] at H
                      obtain ⟨rfl, rfl⟩ := H
                      have hcz21_0 : wc.cell? ⟨gb428, 0, none⟩ = some (.bool false) := (kI BK428.out 0).trans rfl
                      have hcz21_1 : wc.cell? ⟨gb428, 1, none⟩ = some (.slice (some ad430) l0_1.length c0_1) := (kI BK428.out 1).trans rfl
                      have hfz21_0 := kH BK428.out 0
                      have hfz21_1 := kH BK428.out 1
                      go_wp2
                      repeat (go_quiet (fail); try go_wp2)
                      go_ret2
                      exact ⟨by first | rfl | (simp [errW_none, errW_some] <;> rfl) | (simp [*, errW_none, errW_some] <;> rfl), by repeat (first | (with_reducible first | exact HB.out | apply kC | apply kA | apply kB | refine kD ?_ GE428.out) | exact HB.out)⟩
          · rw [if_neg c10] at H
            exact absurd H (by simp)
        · rw [if_neg c9] at H
          exact absurd H (by simp)
end Go.Proofs.YthkmckmfgglafaaGreat.P
namespace Go.Proofs.YthkmckmfgglafaaGreat.P
open Go.RowKit Go.Proofs.YthkmckmfgglafaaGreatW.PrintWords Go.Proofs.YthkmckmfgglafaaGreatW.PrintLast Go.Proofs.YthkmckmfgglafaaGreatW.PrintMore
attribute [local go_sem] max2_int min2_int max_two min_two max_three min_three max_four min_four   -- for this text's walks alone
set_option linter.unusedVariables false
set_option linter.unusedSimpArgs false
def computusref01_Of.f (a0 : Int) : Option (Bool × List Int) := if a0 < 0 then (if 6 ≤ 35184372088832 then ((some (List.replicate 6 0 : List Int)).bind fun y433 => (if 0 < (y433.length : Int) then (if 1 < (y433.length : Int) then (some (true, ((y433.set (0 : Int).toNat (Go.bits .and .u64 (IntKind.u64.wrap (-(IntKind.u64.wrap (a0)))) 4294967295)).set (1 : Int).toNat ((IntKind.u64.wrap (-(IntKind.u64.wrap (a0)))) / 4294967296)))) else (none)) else (none))) else (none)) else (if 6 ≤ 35184372088832 then ((some (List.replicate 6 0 : List Int)).bind fun y438 => (if 0 < (y438.length : Int) then (if 1 < (y438.length : Int) then (some (false, ((y438.set (0 : Int).toNat (Go.bits .and .u64 (IntKind.u64.wrap (a0)) 4294967295)).set (1 : Int).toNat ((IntKind.u64.wrap (a0)) / 4294967296)))) else (none)) else (none))) else (none))
set_option maxHeartbeats 8000000 in
set_option maxRecDepth 100000 in
theorem computusref01_Of.calls (a0 : Int) (r1 : Bool) (r2 : List Int) (w : World) (h : computusref01_Of.f a0 = some (r1, r2)) :
    Calls Tryz.prog 137 #[.int .i64 a0] w fun e w' => ∃ v1_ : Value, e = .returned (.agg #[.bool r1, v1_]) ∧ Kd.R (Kd.int .u64) 169 w' w.heap.size (fun _ => True) v1_ r2 ∧ Below w.heap.size w w' := by
  have hu175 := Tryz.underlying175
  have HB := Aside0.mk (Below.refl w.heap.size w)
  have H : (if a0 < 0 then (if 6 ≤ 35184372088832 then ((some (List.replicate 6 0 : List Int)).bind fun y433 => (if 0 < (y433.length : Int) then (if 1 < (y433.length : Int) then (some (true, ((y433.set (0 : Int).toNat (Go.bits .and .u64 (IntKind.u64.wrap (-(IntKind.u64.wrap (a0)))) 4294967295)).set (1 : Int).toNat ((IntKind.u64.wrap (-(IntKind.u64.wrap (a0)))) / 4294967296)))) else (none)) else (none))) else (none)) else (if 6 ≤ 35184372088832 then ((some (List.replicate 6 0 : List Int)).bind fun y438 => (if 0 < (y438.length : Int) then (if 1 < (y438.length : Int) then (some (false, ((y438.set (0 : Int).toNat (Go.bits .and .u64 (IntKind.u64.wrap (a0)) 4294967295)).set (1 : Int).toNat ((IntKind.u64.wrap (a0)) / 4294967296)))) else (none)) else (none))) else (none))) = some (r1, r2) := h
  clear h
  by_cases c2 : a0 < 0
  · rw [if_pos c2] at H
    have c2b0 : decide (a0 < 0) = true := decide_eq_true c2
    clear c2
    by_cases c3 : 6 ≤ 35184372088832
    · rw [if_pos c3] at H
      have c3b0 := eq_true c3
      have c3b1 : decide (6 ≤ 35184372088832) = true := decide_eq_true c3
      clear c3
      obtain ⟨y433, hy433⟩ : ∃ y_ : List Int, y_ = (List.replicate 6 0) := ⟨_, rfl⟩
      replace H : (if 0 < (y433.length : Int) then (if 1 < (y433.length : Int) then (some (true, ((y433.set (0 : Int).toNat (Go.bits .and .u64 (IntKind.u64.wrap (-(IntKind.u64.wrap (a0)))) 4294967295)).set (1 : Int).toNat ((IntKind.u64.wrap (-(IntKind.u64.wrap (a0)))) / 4294967296)))) else (none)) else (none)) = some (r1, r2) := by first | (rw [hy433]; with_reducible exact H) | (have H2_ := (Option.bind_some _ _).symm.trans H; rw [hy433]; with_reducible exact H2_) | (have H2_ := (Option.bind_some _ _).symm.trans H; with_reducible exact H2_) | with_reducible exact H | (rw [hy433]; exact H) | exact H
      have Ny433 := Aside0.mk hy433
      clear hy433
      by_cases c4 : 0 < (y433.length : Int)
      · rw [if_pos c4] at H
        have c4b0 : decide (0 < (y433.length : Int)) = true := decide_eq_true c4
        have c4b1 : decide (0 < y433.length) = true := decide_eq_true (by omega)
        clear c4
        obtain ⟨y436, hy436⟩ : ∃ y_ : List Int, y_ = (y433.set (0 : Int).toNat (Go.bits .and .u64 (IntKind.u64.wrap (-(IntKind.u64.wrap (a0)))) 4294967295)) := ⟨_, rfl⟩
        replace H : (if 1 < (y433.length : Int) then (some (true, (y436.set (1 : Int).toNat ((IntKind.u64.wrap (-(IntKind.u64.wrap (a0)))) / 4294967296)))) else (none)) = some (r1, r2) := by first | (rw [hy436]; with_reducible exact H) | (have H2_ := (Option.bind_some _ _).symm.trans H; rw [hy436]; with_reducible exact H2_) | (have H2_ := (Option.bind_some _ _).symm.trans H; with_reducible exact H2_) | with_reducible exact H | (rw [hy436]; exact H) | exact H
        have Ny436 := Aside0.mk hy436
        clear hy436
        by_cases c6 : 1 < (y433.length : Int)
        · rw [if_pos c6] at H
          have c6b0 : decide (1 < (y433.length : Int)) = true := decide_eq_true c6
          have c6b1 : decide (1 < y433.length) = true := decide_eq_true (by omega)
          clear c6
          obtain ⟨y437, hy437⟩ : ∃ y_ : List Int, y_ = (y436.set (1 : Int).toNat ((IntKind.u64.wrap (-(IntKind.u64.wrap (a0)))) / 4294967296)) := ⟨_, rfl⟩
          replace H : (some (true, y437)) = some (r1, r2) := by first | (rw [hy437]; with_reducible exact H) | (have H2_ := (Option.bind_some _ _).symm.trans H; rw [hy437]; with_reducible exact H2_) | (have H2_ := (Option.bind_some _ _).symm.trans H; with_reducible exact H2_) | with_reducible exact H | (rw [hy437]; exact H) | exact H
          have Ny437 := Aside0.mk hy437
          clear hy437
          simp only [Option.some.injEq, Prod.mk.injEq] at H
          obtain ⟨rfl, rfl⟩ := H
          go_enter Tryz.func137, Tryz.ntmps137
          go_wp2_with (first | ((with_reducible refine kN (N := 2) rfl ?_); refine kO ?hg (N := 2) ?hd (cs := #[.bool false, .slice none 0 0]) (t := 175) ?hr ?_; (case hd => rfl); (case hg => rfl); (case hr => first | (go_simp; done) | (go_simp; rfl)); intro gb432 hg w8 hbox hb; have n0_ := Aside0.mk (kK (by repeat (first | (with_reducible first | exact HB.out | apply kC | apply kA | apply kB) | exact HB.out)) hb); have n1_ := Aside0.mk (hbox); have n2_ := Aside0.mk ((by rw [hg]; exact (kJ (by repeat (first | (with_reducible first | exact HB.out | apply kC | apply kA | apply kB) | exact HB.out))) : w.heap.size ≤ gb432)); have n3_ := Aside0.mk ((by rw [hg]; exact (kJ (by repeat (first | (with_reducible first | exact HB.out | apply kC | apply kA | apply kB) | exact HB.out))) : w.heap.size ≤ gb432)); clear HB; have HB := n0_; have BK432 := n1_; have GW432 := n2_; have GE432 := n3_; clear n0_ n1_ n2_ n3_; clear hb hbox hg) | ((with_reducible refine kN (N := 11) rfl ?_); refine Kd.R_make (Kd.int .u64) _ 169 rfl (N := 11) rfl 173 _ _ rfl 6 rfl rfl Tryz.underlying173 (.int .u64 0) 8 info169 rfl (by decide) (by omega) 0 (ok := fun _ => True) (okp := fun _ => True) rfl (fun _ hk => hk) trivial (by omega) (by omega) (Below.refl _ _) (Nat.le_refl _) ?_; intro v434 w9 ho10 hb hg_ hnew_; clear hg_ hnew_; (first | rw [← Ny433.out] at ho10 | (simp only [Int.reduceToNat] at ho10; rw [← Ny433.out] at ho10)); have n0_ := Aside0.mk (Kd.R_lower ho10 (kJ (by repeat (first | (with_reducible first | exact HB.out | apply kC | apply kA | apply kB | refine kD ?_ GE432.out) | exact HB.out)))); have n1_ := Aside0.mk (kL (g := gb432) (o := .cells #[.bool false, .slice none 0 0] 175 (0, 0)) (by (with_reducible repeat (first | refine kF ?_ _ | refine kG ?_ | refine kE ?_ _)); exact BK432.out) hb); have n2_ := Aside0.mk (kK (by repeat (first | (with_reducible first | exact HB.out | apply kC | apply kA | apply kB | refine kD ?_ GE432.out) | exact HB.out)) hb); clear BK432; clear HB; have HO435 := n0_; have BK432 := n1_; have HB := n2_; clear n0_ n1_ n2_; clear hb ho10; have p5 : 0 ≤ (0 : Int) := (by omega); have q5 : (0 : Int) < ((y433.length : Int) : Int) := of_decide_eq_true (by first | (with_reducible assumption) | assumption); have qi5 : (0 < y433.length) = True := eq_true (by omega); obtain ⟨go5, co5, eo5, gb5, gl5, cl5, HG5⟩ := Kd.R_form HO435.out (by omega); (first | cases eo5 | (injection eo5 with ea_ en_ ec_; (first | subst ea_ | (injection ea_ with ea_; subst ea_)); subst ec_; clear en_)); have GB5 := Aside0.mk gb5; have GG5 := Aside0.mk HG5; clear gb5 gl5 HG5; obtain ⟨hx5_0, hf5_0⟩ := Kd.R_celln 0 HO435.out (0 : Int) p5 q5; (try rw [show ((0 : Int)).toNat = 0 from rfl] at hx5_0); (try simp only [Nat.reduceMul, Nat.zero_mul, Nat.zero_add, Nat.reduceAdd] at hx5_0); (try rw [show ((0 : Int)).toNat = 0 from rfl] at hf5_0); (try simp only [Nat.reduceMul, Nat.zero_mul, Nat.zero_add, Nat.reduceAdd] at hf5_0); replace p5 := eq_true p5; replace q5 := eq_true q5; obtain ⟨hy11_, hz11_⟩ := Kd.R_celln 0 HO435.out (0 : Int) (by omega) (of_decide_eq_true (by first | (with_reducible assumption) | assumption)); (try simp only [Int.reduceToNat, Int.toNat_zero, Int.toNat_ofNat, Nat.reduceMul, Nat.zero_mul, Nat.zero_add] at hy11_ hz11_); (try rw [show ((0 : Int)).toNat = 0 from rfl] at hy11_); (try rw [show ((0 : Int)).toNat = 0 from rfl] at hz11_); have HP11 := Kd.R_putg HO435.out (0 : Int) (Go.bits .and .u64 (IntKind.u64.wrap (-(IntKind.u64.wrap (a0)))) 4294967295)) | ((with_reducible refine gate_store (t := 169) (p := 15) rfl ?_); refine store_event (t := 169) (p := 15) (v := ?vo_w12) (w1 := (w9.setCell ⟨go5, (0 : Int).toNat, none⟩ (.int .u64 (Go.bits .and .u64 (IntKind.u64.wrap (-(IntKind.u64.wrap (a0)))) 4294967295)))) ?hg ?ho ?hn ?hr ?_; (case ho => rfl); (case hg => rfl); (case hn => rfl); (case hr => first | (go_simp; done) | (go_simp; rfl)); intro w12 hw; have hg : w9.grownBy w12 (some go5) := (by rw [hw]; exact HP11.2); have hp_ : Kd.R (Kd.int .u64) 169 w12 w.heap.size (fun _ => True) (.slice (some ⟨go5, 0, none⟩) y433.length co5) y436 := (by rw [hw, Ny436.out]; exact HP11.1); clear HP11; have n0_ := Aside0.mk (blk_grown (g := gb432) (o := .cells #[.bool false, .slice none 0 0] 175 (0, 0)) (by (with_reducible repeat (first | refine kF ?_ _ | refine kG ?_ | refine kE ?_ _)); exact BK432.out) hg (Kd.R_ne HO435.out BK432.out (by decide))); have n1_ := Aside0.mk (hp_); have n2_ := Aside0.mk ((by rw [hw]; exact kD (HB.out) GB5.out : Below w.heap.size w w12)); clear BK432; clear HO435; clear HB; have BK432 := n0_; have HO435 := n1_; have HB := n2_; clear n0_ n1_ n2_; clear hg hw hp_; have p7 : 0 ≤ (1 : Int) := (by omega); have q7 : (1 : Int) < ((y433.length : Int) : Int) := of_decide_eq_true (by first | (with_reducible assumption) | assumption); have qi7 : (1 < y433.length) = True := eq_true (by omega); obtain ⟨hx7_0, hf7_0⟩ := Kd.R_celln 0 HO435.out (1 : Int) p7 q7; (try rw [show ((1 : Int)).toNat = 1 from rfl] at hx7_0); (try simp only [Nat.reduceMul, Nat.zero_mul, Nat.zero_add, Nat.reduceAdd] at hx7_0); (try rw [show ((1 : Int)).toNat = 1 from rfl] at hf7_0); (try simp only [Nat.reduceMul, Nat.zero_mul, Nat.zero_add, Nat.reduceAdd] at hf7_0); replace p7 := eq_true p7; replace q7 := eq_true q7; obtain ⟨hy13_, hz13_⟩ := Kd.R_celln 0 HO435.out (1 : Int) (by omega) (of_decide_eq_true (by first | (with_reducible assumption) | assumption)); (try simp only [Int.reduceToNat, Int.toNat_zero, Int.toNat_ofNat, Nat.reduceMul, Nat.zero_mul, Nat.zero_add] at hy13_ hz13_); (try rw [show ((1 : Int)).toNat = 1 from rfl] at hy13_); (try rw [show ((1 : Int)).toNat = 1 from rfl] at hz13_); have HP13 := Kd.R_putg HO435.out (1 : Int) ((IntKind.u64.wrap (-(IntKind.u64.wrap (a0)))) / 4294967296)) | ((with_reducible refine gate_store (t := 169) (p := 19) rfl ?_); refine store_event (t := 169) (p := 19) (v := ?vo_w14) (w1 := (w12.setCell ⟨go5, (1 : Int).toNat, none⟩ (.int .u64 ((IntKind.u64.wrap (-(IntKind.u64.wrap (a0)))) / 4294967296)))) ?hg ?ho ?hn ?hr ?_; (case ho => rfl); (case hg => rfl); (case hn => rfl); (case hr => first | (go_simp; done) | (go_simp; rfl)); intro w14 hw; have hg : w12.grownBy w14 (some go5) := (by rw [hw]; exact HP13.2); have hp_ : Kd.R (Kd.int .u64) 169 w14 w.heap.size (fun _ => True) (.slice (some ⟨go5, 0, none⟩) y433.length co5) y437 := (by rw [hw, Ny437.out]; exact HP13.1); clear HP13; have n0_ := Aside0.mk (blk_grown (g := gb432) (o := .cells #[.bool false, .slice none 0 0] 175 (0, 0)) (by (with_reducible repeat (first | refine kF ?_ _ | refine kG ?_ | refine kE ?_ _)); exact BK432.out) hg (Kd.R_ne HO435.out BK432.out (by decide))); have n1_ := Aside0.mk (hp_); have n2_ := Aside0.mk ((by rw [hw]; exact kD (HB.out) GB5.out : Below w.heap.size w w14)); clear BK432; clear HO435; clear HB; have BK432 := n0_; have HO435 := n1_; have HB := n2_; clear n0_ n1_ n2_; clear hg hw hp_; have hcz15_0 : w14.cell? ⟨gb432, 0, none⟩ = some (.bool false) := (kI BK432.out 0).trans rfl; have hcz15_1 : w14.cell? ⟨gb432, 1, none⟩ = some (.slice none 0 0) := (kI BK432.out 1).trans rfl; have hfz15_0 := kH BK432.out 0; have hfz15_1 := kH BK432.out 1))
          refine bodyPost_ret (results_cell_row rfl _ _ gb432 175 #[.bool true, .slice (some ⟨go5, 0, none⟩) y433.length co5] (0, 0) _ rfl (by (with_reducible repeat (first | refine kF ?_ _ | refine kG ?_ | refine kE ?_ _)); refine blk_put (cs := #[.bool true, .slice none 0 0]) ?_ 1 _ rfl; (with_reducible repeat (first | refine kF ?_ _ | refine kG ?_ | refine kE ?_ _)); refine blk_put (cs := #[.bool false, .slice none 0 0]) ?_ 0 _ rfl; (with_reducible repeat (first | refine kF ?_ _ | refine kG ?_ | refine kE ?_ _)); exact BK432.out) Tryz.underlying175 rfl (by kernel_rfl)) rfl ?_
          exact ⟨_, by first | rfl | (simp [errW_none, errW_some] <;> rfl) | (simp [*, errW_none, errW_some] <;> rfl), by (with_reducible repeat (first | apply Kd.R_alloc | apply Kd.R_drewN | apply Kd.R_drew)); exact Kd.R_mono (Kd.R_far (p := ⟨gb432, 1, none⟩) (Kd.R_far (p := ⟨gb432, 0, none⟩) (Kd.R_types HO435.out BK432.out (by decide)) (fun _ hk => hk.2) (.bool true)) (fun _ hk => hk.2) (.slice (some ⟨go5, 0, none⟩) y433.length co5)) (fun _ hk => trivial), by repeat (first | (with_reducible first | exact HB.out | apply kC | apply kA | apply kB | refine kD ?_ GE432.out) | exact HB.out)⟩
        · rw [if_neg c6] at H
          exact absurd H (by simp)
      · rw [if_neg c4] at H
        exact absurd H (by simp)
    · rw [if_neg c3] at H
      exact absurd H (by simp)
  · rw [if_neg c2] at H
    have c2b0 : decide (a0 < 0) = false := decide_eq_false c2
    clear c2
    by_cases c16 : 6 ≤ 35184372088832
    · rw [if_pos c16] at H
      have c16b0 := eq_true c16
      have c16b1 : decide (6 ≤ 35184372088832) = true := decide_eq_true c16
      clear c16
      obtain ⟨y438, hy438⟩ : ∃ y_ : List Int, y_ = (List.replicate 6 0) := ⟨_, rfl⟩
      replace H : (if 0 < (y438.length : Int) then (if 1 < (y438.length : Int) then (some (false, ((y438.set (0 : Int).toNat (Go.bits .and .u64 (IntKind.u64.wrap (a0)) 4294967295)).set (1 : Int).toNat ((IntKind.u64.wrap (a0)) / 4294967296)))) else (none)) else (none)) = some (r1, r2) := by first | (rw [hy438]; with_reducible exact H) | (have H2_ := (Option.bind_some _ _).symm.trans H; rw [hy438]; with_reducible exact H2_) | (have H2_ := (Option.bind_some _ _).symm.trans H; with_reducible exact H2_) | with_reducible exact H | (rw [hy438]; exact H) | exact H
      have Ny438 := Aside0.mk hy438
      clear hy438
      by_cases c17 : 0 < (y438.length : Int)
      · rw [if_pos c17] at H
        have c17b0 : decide (0 < (y438.length : Int)) = true := decide_eq_true c17
        have c17b1 : decide (0 < y438.length) = true := decide_eq_true (by omega)
        clear c17
        obtain ⟨y441, hy441⟩ : ∃ y_ : List Int, y_ = (y438.set (0 : Int).toNat (Go.bits .and .u64 (IntKind.u64.wrap (a0)) 4294967295)) := ⟨_, rfl⟩
        replace H : (if 1 < (y438.length : Int) then (some (false, (y441.set (1 : Int).toNat ((IntKind.u64.wrap (a0)) / 4294967296)))) else (none)) = some (r1, r2) := by first | (rw [hy441]; with_reducible exact H) | (have H2_ := (Option.bind_some _ _).symm.trans H; rw [hy441]; with_reducible exact H2_) | (have H2_ := (Option.bind_some _ _).symm.trans H; with_reducible exact H2_) | with_reducible exact H | (rw [hy441]; exact H) | exact H
        have Ny441 := Aside0.mk hy441
        clear hy441
        by_cases c19 : 1 < (y438.length : Int)
        · rw [if_pos c19] at H
          have c19b0 : decide (1 < (y438.length : Int)) = true := decide_eq_true c19
          have c19b1 : decide (1 < y438.length) = true := decide_eq_true (by omega)
          clear c19
          obtain ⟨y442, hy442⟩ : ∃ y_ : List Int, y_ = (y441.set (1 : Int).toNat ((IntKind.u64.wrap (a0)) / 4294967296)) := ⟨_, rfl⟩
          replace H : (some (false, y442)) = some (r1, r2) := by first | (rw [hy442]; with_reducible exact H) | (have H2_ := (Option.bind_some _ _).symm.trans H; rw [hy442]; with_reducible exact H2_) | (have H2_ := (Option.bind_some _ _).symm.trans H; with_reducible exact H2_) | with_reducible exact H | (rw [hy442]; exact H) | exact H
          have Ny442 := Aside0.mk hy442
          clear hy442
          simp only [Option.some.injEq, Prod.mk.injEq] at H
          obtain ⟨rfl, rfl⟩ := H
          go_enter Tryz.func137, Tryz.ntmps137
          go_wp2_with (first | ((with_reducible refine kN (N := 2) rfl ?_); refine kO ?hg (N := 2) ?hd (cs := #[.bool false, .slice none 0 0]) (t := 175) ?hr ?_; (case hd => rfl); (case hg => rfl); (case hr => first | (go_simp; done) | (go_simp; rfl)); intro gb432 hg w21 hbox hb; have n0_ := Aside0.mk (kK (by repeat (first | (with_reducible first | exact HB.out | apply kC | apply kA | apply kB) | exact HB.out)) hb); have n1_ := Aside0.mk (hbox); have n2_ := Aside0.mk ((by rw [hg]; exact (kJ (by repeat (first | (with_reducible first | exact HB.out | apply kC | apply kA | apply kB) | exact HB.out))) : w.heap.size ≤ gb432)); have n3_ := Aside0.mk ((by rw [hg]; exact (kJ (by repeat (first | (with_reducible first | exact HB.out | apply kC | apply kA | apply kB) | exact HB.out))) : w.heap.size ≤ gb432)); clear HB; have HB := n0_; have BK432 := n1_; have GW432 := n2_; have GE432 := n3_; clear n0_ n1_ n2_ n3_; clear hb hbox hg) | ((with_reducible refine kN (N := 11) rfl ?_); refine Kd.R_make (Kd.int .u64) _ 169 rfl (N := 11) rfl 173 _ _ rfl 6 rfl rfl Tryz.underlying173 (.int .u64 0) 8 info169 rfl (by decide) (by omega) 0 (ok := fun _ => True) (okp := fun _ => True) rfl (fun _ hk => hk) trivial (by omega) (by omega) (Below.refl _ _) (Nat.le_refl _) ?_; intro v439 w22 ho23 hb hg_ hnew_; clear hg_ hnew_; (first | rw [← Ny438.out] at ho23 | (simp only [Int.reduceToNat] at ho23; rw [← Ny438.out] at ho23)); have n0_ := Aside0.mk (Kd.R_lower ho23 (kJ (by repeat (first | (with_reducible first | exact HB.out | apply kC | apply kA | apply kB | refine kD ?_ GE432.out) | exact HB.out)))); have n1_ := Aside0.mk (kL (g := gb432) (o := .cells #[.bool false, .slice none 0 0] 175 (0, 0)) (by (with_reducible repeat (first | refine kF ?_ _ | refine kG ?_ | refine kE ?_ _)); exact BK432.out) hb); have n2_ := Aside0.mk (kK (by repeat (first | (with_reducible first | exact HB.out | apply kC | apply kA | apply kB | refine kD ?_ GE432.out) | exact HB.out)) hb); clear BK432; clear HB; have HO440 := n0_; have BK432 := n1_; have HB := n2_; clear n0_ n1_ n2_; clear hb ho23; have p18 : 0 ≤ (0 : Int) := (by omega); have q18 : (0 : Int) < ((y438.length : Int) : Int) := of_decide_eq_true (by first | (with_reducible assumption) | assumption); have qi18 : (0 < y438.length) = True := eq_true (by omega); obtain ⟨go18, co18, eo18, gb18, gl18, cl18, HG18⟩ := Kd.R_form HO440.out (by omega); (first | cases eo18 | (injection eo18 with ea_ en_ ec_; (first | subst ea_ | (injection ea_ with ea_; subst ea_)); subst ec_; clear en_)); have GB18 := Aside0.mk gb18; have GG18 := Aside0.mk HG18; clear gb18 gl18 HG18; obtain ⟨hx18_0, hf18_0⟩ := Kd.R_celln 0 HO440.out (0 : Int) p18 q18; (try rw [show ((0 : Int)).toNat = 0 from rfl] at hx18_0); (try simp only [Nat.reduceMul, Nat.zero_mul, Nat.zero_add, Nat.reduceAdd] at hx18_0); (try rw [show ((0 : Int)).toNat = 0 from rfl] at hf18_0); (try simp only [Nat.reduceMul, Nat.zero_mul, Nat.zero_add, Nat.reduceAdd] at hf18_0); replace p18 := eq_true p18; replace q18 := eq_true q18; obtain ⟨hy24_, hz24_⟩ := Kd.R_celln 0 HO440.out (0 : Int) (by omega) (of_decide_eq_true (by first | (with_reducible assumption) | assumption)); (try simp only [Int.reduceToNat, Int.toNat_zero, Int.toNat_ofNat, Nat.reduceMul, Nat.zero_mul, Nat.zero_add] at hy24_ hz24_); (try rw [show ((0 : Int)).toNat = 0 from rfl] at hy24_); (try rw [show ((0 : Int)).toNat = 0 from rfl] at hz24_); have HP24 := Kd.R_putg HO440.out (0 : Int) (Go.bits .and .u64 (IntKind.u64.wrap (a0)) 4294967295)) | ((with_reducible refine gate_store (t := 169) (p := 15) rfl ?_); refine store_event (t := 169) (p := 15) (v := ?vo_w25) (w1 := (w22.setCell ⟨go18, (0 : Int).toNat, none⟩ (.int .u64 (Go.bits .and .u64 (IntKind.u64.wrap (a0)) 4294967295)))) ?hg ?ho ?hn ?hr ?_; (case ho => rfl); (case hg => rfl); (case hn => rfl); (case hr => first | (go_simp; done) | (go_simp; rfl)); intro w25 hw; have hg : w22.grownBy w25 (some go18) := (by rw [hw]; exact HP24.2); have hp_ : Kd.R (Kd.int .u64) 169 w25 w.heap.size (fun _ => True) (.slice (some ⟨go18, 0, none⟩) y438.length co18) y441 := (by rw [hw, Ny441.out]; exact HP24.1); clear HP24; have n0_ := Aside0.mk (blk_grown (g := gb432) (o := .cells #[.bool false, .slice none 0 0] 175 (0, 0)) (by (with_reducible repeat (first | refine kF ?_ _ | refine kG ?_ | refine kE ?_ _)); exact BK432.out) hg (Kd.R_ne HO440.out BK432.out (by decide))); have n1_ := Aside0.mk (hp_); have n2_ := Aside0.mk ((by rw [hw]; exact kD (HB.out) GB18.out : Below w.heap.size w w25)); clear BK432; clear HO440; clear HB; have BK432 := n0_; have HO440 := n1_; have HB := n2_; clear n0_ n1_ n2_; clear hg hw hp_; have p20 : 0 ≤ (1 : Int) := (by omega); have q20 : (1 : Int) < ((y438.length : Int) : Int) := of_decide_eq_true (by first | (with_reducible assumption) | assumption); have qi20 : (1 < y438.length) = True := eq_true (by omega); obtain ⟨hx20_0, hf20_0⟩ := Kd.R_celln 0 HO440.out (1 : Int) p20 q20; (try rw [show ((1 : Int)).toNat = 1 from rfl] at hx20_0); (try simp only [Nat.reduceMul, Nat.zero_mul, Nat.zero_add, Nat.reduceAdd] at hx20_0); (try rw [show ((1 : Int)).toNat = 1 from rfl] at hf20_0); (try simp only [Nat.reduceMul, Nat.zero_mul, Nat.zero_add, Nat.reduceAdd] at hf20_0); replace p20 := eq_true p20; replace q20 := eq_true q20; obtain ⟨hy26_, hz26_⟩ := Kd.R_celln 0 HO440.out (1 : Int) (by omega) (of_decide_eq_true (by first | (with_reducible assumption) | assumption)); (try simp only [Int.reduceToNat, Int.toNat_zero, Int.toNat_ofNat, Nat.reduceMul, Nat.zero_mul, Nat.zero_add] at hy26_ hz26_); (try rw [show ((1 : Int)).toNat = 1 from rfl] at hy26_); (try rw [show ((1 : Int)).toNat = 1 from rfl] at hz26_); have HP26 := Kd.R_putg HO440.out (1 : Int) ((IntKind.u64.wrap (a0)) / 4294967296)) | ((with_reducible refine gate_store (t := 169) (p := 19) rfl ?_); refine store_event (t := 169) (p := 19) (v := ?vo_w27) (w1 := (w25.setCell ⟨go18, (1 : Int).toNat, none⟩ (.int .u64 ((IntKind.u64.wrap (a0)) / 4294967296)))) ?hg ?ho ?hn ?hr ?_; (case ho => rfl); (case hg => rfl); (case hn => rfl); (case hr => first | (go_simp; done) | (go_simp; rfl)); intro w27 hw; have hg : w25.grownBy w27 (some go18) := (by rw [hw]; exact HP26.2); have hp_ : Kd.R (Kd.int .u64) 169 w27 w.heap.size (fun _ => True) (.slice (some ⟨go18, 0, none⟩) y438.length co18) y442 := (by rw [hw, Ny442.out]; exact HP26.1); clear HP26; have n0_ := Aside0.mk (blk_grown (g := gb432) (o := .cells #[.bool false, .slice none 0 0] 175 (0, 0)) (by (with_reducible repeat (first | refine kF ?_ _ | refine kG ?_ | refine kE ?_ _)); exact BK432.out) hg (Kd.R_ne HO440.out BK432.out (by decide))); have n1_ := Aside0.mk (hp_); have n2_ := Aside0.mk ((by rw [hw]; exact kD (HB.out) GB18.out : Below w.heap.size w w27)); clear BK432; clear HO440; clear HB; have BK432 := n0_; have HO440 := n1_; have HB := n2_; clear n0_ n1_ n2_; clear hg hw hp_; have hcz28_0 : w27.cell? ⟨gb432, 0, none⟩ = some (.bool false) := (kI BK432.out 0).trans rfl; have hcz28_1 : w27.cell? ⟨gb432, 1, none⟩ = some (.slice none 0 0) := (kI BK432.out 1).trans rfl; have hfz28_0 := kH BK432.out 0; have hfz28_1 := kH BK432.out 1))
          refine bodyPost_ret (results_cell_row rfl _ _ gb432 175 #[.bool false, .slice (some ⟨go18, 0, none⟩) y438.length co18] (0, 0) _ rfl (by (with_reducible repeat (first | refine kF ?_ _ | refine kG ?_ | refine kE ?_ _)); refine blk_put (cs := #[.bool false, .slice none 0 0]) ?_ 1 _ rfl; (with_reducible repeat (first | refine kF ?_ _ | refine kG ?_ | refine kE ?_ _)); refine blk_put (cs := #[.bool false, .slice none 0 0]) ?_ 0 _ rfl; (with_reducible repeat (first | refine kF ?_ _ | refine kG ?_ | refine kE ?_ _)); exact BK432.out) Tryz.underlying175 rfl (by kernel_rfl)) rfl ?_
          exact ⟨_, by first | rfl | (simp [errW_none, errW_some] <;> rfl) | (simp [*, errW_none, errW_some] <;> rfl), by (with_reducible repeat (first | apply Kd.R_alloc | apply Kd.R_drewN | apply Kd.R_drew)); exact Kd.R_mono (Kd.R_far (p := ⟨gb432, 1, none⟩) (Kd.R_far (p := ⟨gb432, 0, none⟩) (Kd.R_types HO440.out BK432.out (by decide)) (fun _ hk => hk.2) (.bool false)) (fun _ hk => hk.2) (.slice (some ⟨go18, 0, none⟩) y438.length co18)) (fun _ hk => trivial), by repeat (first | (with_reducible first | exact HB.out | apply kC | apply kA | apply kB | refine kD ?_ GE432.out) | exact HB.out)⟩
        · rw [if_neg c19] at H
          exact absurd H (by simp)
      · rw [if_neg c17] at H
        exact absurd H (by simp)
    · rw [if_neg c16] at H
      exact absurd H (by simp)
def computusref01_add.l0 : Nat → List Int → List Int → List Int → Int → Int → Option (List Int)
  | 0, _, _, _, _, _ => none
  | k + 1, x0, x1, x5, x6, x7 => if x7 < 6 then (if 0 ≤ x7 then (if x7 < (x0.length : Int) then (if x7 < (x1.length : Int) then (if x7 < (x5.length : Int) then (computusref01_add.l0 k x0 x1 (x5.set (x7 : Int).toNat (Go.bits .and .u64 (IntKind.u64.wrap ((IntKind.u64.wrap (x6 + (rd x0 x7))) + (rd x1 x7))) 4294967295)) ((IntKind.u64.wrap ((IntKind.u64.wrap (x6 + (rd x0 x7))) + (rd x1 x7))) / 4294967296) (wrap64 (x7 + 1))) else (none)) else (none)) else (none)) else (none)) else (some x5)
def computusref01_add.f (k : Nat) (l0 : List Int) (l1 : List Int) : Option (List Int) := if 6 ≤ 35184372088832 then (computusref01_add.l0 k l0 l1 (List.replicate 6 0) 0 0) else (none)
theorem computusref01_add.mono_l : ∀ k, (∀ y0 y1 y2 y3 y4, LeO (computusref01_add.l0 k y0 y1 y2 y3 y4) (computusref01_add.l0 (k + 1) y0 y1 y2 y3 y4))
  | 0 => fun _ _ _ _ _ r h => by simp [computusref01_add.l0] at h
  | k + 1 => by
    have ih0 := computusref01_add.mono_l k
    · intro y0 y1 y2 y3 y4
      unfold computusref01_add.l0
      repeat' first
      | (with_reducible exact ih0 _ _ _ _ _)
      | (with_reducible exact LeO.refl _)
      | (with_reducible exact LeO.none _)
      | (with_reducible refine LeO.ite ?_ ?_)
      | (with_reducible refine LeO.bind ?_ (fun _ => ?_))
      | exact ih0 _ _ _ _ _
      | exact LeO.none _
      | refine LeO.ite ?_ ?_
      | refine LeO.bind ?_ (fun _ => ?_)
theorem computusref01_add.mono : ∀ a0 a1 k, LeO (computusref01_add.f k a0 a1) (computusref01_add.f (k + 1) a0 a1) := by
  intro a0 a1 k
  have ih0 := computusref01_add.mono_l k
  unfold computusref01_add.f
  repeat' first
      | (with_reducible exact ih0 _ _ _ _ _)
      | (with_reducible exact LeO.refl _)
      | (with_reducible exact LeO.none _)
      | (with_reducible refine LeO.ite ?_ ?_)
      | (with_reducible refine LeO.bind ?_ (fun _ => ?_))
      | exact ih0 _ _ _ _ _
      | exact LeO.none _
      | refine LeO.ite ?_ ?_
      | refine LeO.bind ?_ (fun _ => ?_)
set_option maxHeartbeats 8000000 in
set_option maxRecDepth 100000 in
theorem computusref01_add.calls (k : Nat) (A0 : Option Addr) (c0 : Nat) (l0 : List Int) (A1 : Option Addr) (c1 : Nat) (l1 : List Int) (r : List Int) (w : World) (hr0 : Kd.C (Kd.int .u64) w A0 l0.length l0) (hc0 : l0.length ≤ c0) (hr1 : Kd.C (Kd.int .u64) w A1 l1.length l1) (hc1 : l1.length ≤ c1) (h : computusref01_add.f k l0 l1 = some r) :
    Calls Tryz.prog 182 #[.slice A0 l0.length c0, .slice A1 l1.length c1] w fun e w' => ∃ v0_ : Value, e = .returned (v0_) ∧ Kd.R (Kd.int .u64) 169 w' w.heap.size (fun _ => True) v0_ r ∧ Below w.heap.size w w' := by
  have HR0 := Aside0.mk hr0
  have HC0 := Aside0.mk hc0
  clear hr0 hc0
  have HR1 := Aside0.mk hr1
  have HC1 := Aside0.mk hc1
  clear hr1 hc1
  have HB := Aside0.mk (Below.refl w.heap.size w)
  have H : (if 6 ≤ 35184372088832 then (computusref01_add.l0 k l0 l1 (List.replicate 6 0) 0 0) else (none)) = some r := h
  clear h
  by_cases c3 : 6 ≤ 35184372088832
  · rw [if_pos c3] at H
    have c3b0 := eq_true c3
    have c3b1 : decide (6 ≤ 35184372088832) = true := decide_eq_true c3
    clear c3
    obtain ⟨y443, hy443⟩ : ∃ y_ : List Int, y_ = (List.replicate 6 0) := ⟨_, rfl⟩
    replace H : (computusref01_add.l0 k l0 l1 y443 0 0) = some r := by first | (rw [hy443]; with_reducible exact H) | (have H2_ := (Option.bind_some _ _).symm.trans H; rw [hy443]; with_reducible exact H2_) | (have H2_ := (Option.bind_some _ _).symm.trans H; with_reducible exact H2_) | with_reducible exact H | (rw [hy443]; exact H) | exact H
    have Ny443 := Aside0.mk hy443
    clear hy443
    have H' := Aside0.mk H
    clear H
    go_enter Tryz.func182, Tryz.ntmps182
    go_wp2_with (first | ((with_reducible refine kN (N := 8) rfl ?_); refine Kd.R_make (Kd.int .u64) _ 169 rfl (N := 8) rfl 173 _ _ rfl 6 rfl rfl Tryz.underlying173 (.int .u64 0) 8 info169 rfl (by decide) (by omega) 0 (ok := fun _ => True) (okp := fun _ => True) rfl (fun _ hk => hk) trivial (by omega) (by omega) (Below.refl _ _) (Nat.le_refl _) ?_; intro v444 w4 ho5 hb hg_ hnew_; clear hg_ hnew_; (first | rw [← Ny443.out] at ho5 | (simp only [Int.reduceToNat] at ho5; rw [← Ny443.out] at ho5)); have n0_ := Aside0.mk (Kd.R_lower ho5 (kJ (by repeat (first | (with_reducible first | exact HB.out | apply kC | apply kA | apply kB) | exact HB.out)))); have n1_ := Aside0.mk (kK (by repeat (first | (with_reducible first | exact HB.out | apply kC | apply kA | apply kB) | exact HB.out)) hb); clear HB; have HO445 := n0_; have HB := n1_; clear n0_ n1_; clear hb ho5))
    repeat (go_quiet (first | ((with_reducible refine kN (N := 8) rfl ?_); refine Kd.R_make (Kd.int .u64) _ 169 rfl (N := 8) rfl 173 _ _ rfl 6 rfl rfl Tryz.underlying173 (.int .u64 0) 8 info169 rfl (by decide) (by omega) 0 (ok := fun _ => True) (okp := fun _ => True) rfl (fun _ hk => hk) trivial (by omega) (by omega) (Below.refl _ _) (Nat.le_refl _) ?_; intro v444 w4 ho5 hb hg_ hnew_; clear hg_ hnew_; (first | rw [← Ny443.out] at ho5 | (simp only [Int.reduceToNat] at ho5; rw [← Ny443.out] at ho5)); have n0_ := Aside0.mk (Kd.R_lower ho5 (kJ (by repeat (first | (with_reducible first | exact HB.out | apply kC | apply kA | apply kB) | exact HB.out)))); have n1_ := Aside0.mk (kK (by repeat (first | (with_reducible first | exact HB.out | apply kC | apply kA | apply kB) | exact HB.out)) hb); clear HB; have HO445 := n0_; have HB := n1_; clear n0_ n1_; clear hb ho5)); try go_wp2_with (first | ((with_reducible refine kN (N := 8) rfl ?_); refine Kd.R_make (Kd.int .u64) _ 169 rfl (N := 8) rfl 173 _ _ rfl 6 rfl rfl Tryz.underlying173 (.int .u64 0) 8 info169 rfl (by decide) (by omega) 0 (ok := fun _ => True) (okp := fun _ => True) rfl (fun _ hk => hk) trivial (by omega) (by omega) (Below.refl _ _) (Nat.le_refl _) ?_; intro v444 w4 ho5 hb hg_ hnew_; clear hg_ hnew_; (first | rw [← Ny443.out] at ho5 | (simp only [Int.reduceToNat] at ho5; rw [← Ny443.out] at ho5)); have n0_ := Aside0.mk (Kd.R_lower ho5 (kJ (by repeat (first | (with_reducible first | exact HB.out | apply kC | apply kA | apply kB) | exact HB.out)))); have n1_ := Aside0.mk (kK (by repeat (first | (with_reducible first | exact HB.out | apply kC | apply kA | apply kB) | exact HB.out)) hb); clear HB; have HO445 := n0_; have HB := n1_; clear n0_ n1_; clear hb ho5)))
    go_loopg [6, 7] k (fun kq v6 v7 w' => ∃ (x5_1 : List Int) (x6_1 : Int) (x7_1 : Int), v6 = .int .u64 x6_1 ∧ v7 = .int .i64 x7_1 ∧ Aside0 (computusref01_add.l0 kq l0 l1 x5_1 x6_1 x7_1 = some r) ∧ Aside0 (kq ≤ k) ∧ Aside0 (Kd.R (Kd.int .u64) 169 w' w.heap.size (fun _ => True) v444 x5_1) ∧ Aside0 (Below w.heap.size w w'))
    case atStart => exact ⟨(y443), (0), (0), (by first | rfl | (simp; done) | (simp [*]; done)), (by first | rfl | (simp; done) | (simp [*]; done)), H', ⟨Nat.le_refl _⟩, ⟨by (with_reducible repeat (first | apply Kd.R_alloc | apply Kd.R_drewN | apply Kd.R_drew)); exact HO445.out⟩, ⟨by repeat (first | (with_reducible first | exact HB.out | apply kC | apply kA | apply kB) | exact HB.out)⟩⟩
    case round =>
      clear H'
      try clear c1
      try clear p2
      try clear c3
      try clear c3b0
      try clear c3b1
      obtain ⟨x5_1, x6_1, x7_1, rfl, rfl, HA, HK1, HO_5, HB⟩ := hrel
      cases gk with
      | zero => exact absurd HA.out (by simp [computusref01_add.l0])
      | succ k1 =>
        have H := HA.out
        clear HA
        simp only [computusref01_add.l0] at H
        by_cases c6 : x7_1 < 6
        · rw [if_pos c6] at H
          have c6b0 : decide (x7_1 < 6) = true := decide_eq_true c6
          clear c6
          by_cases c7 : 0 ≤ x7_1
          · rw [if_pos c7] at H
            have c7b0 : decide (0 ≤ x7_1) = true := decide_eq_true c7
            clear c7
            by_cases c8 : x7_1 < (l0.length : Int)
            · rw [if_pos c8] at H
              have c8b0 : decide (x7_1 < (l0.length : Int)) = true := decide_eq_true c8
              clear c8
              by_cases c9 : x7_1 < (l1.length : Int)
              · rw [if_pos c9] at H
                have c9b0 : decide (x7_1 < (l1.length : Int)) = true := decide_eq_true c9
                clear c9
                by_cases c10 : x7_1 < (x5_1.length : Int)
                · rw [if_pos c10] at H
                  have c10b0 : decide (x7_1 < (x5_1.length : Int)) = true := decide_eq_true c10
                  clear c10
                  obtain ⟨y448, hy448⟩ : ∃ y_ : List Int, y_ = (x5_1.set (x7_1 : Int).toNat (Go.bits .and .u64 (IntKind.u64.wrap ((IntKind.u64.wrap (x6_1 + (rd l0 x7_1))) + (rd l1 x7_1))) 4294967295)) := ⟨_, rfl⟩
                  replace H : (computusref01_add.l0 k1 l0 l1 y448 ((IntKind.u64.wrap ((IntKind.u64.wrap (x6_1 + (rd l0 x7_1))) + (rd l1 x7_1))) / 4294967296) (wrap64 (x7_1 + 1))) = some r := by first | (rw [hy448]; with_reducible exact H) | (have H2_ := (Option.bind_some _ _).symm.trans H; rw [hy448]; with_reducible exact H2_) | (have H2_ := (Option.bind_some _ _).symm.trans H; with_reducible exact H2_) | with_reducible exact H | (rw [hy448]; exact H) | exact H
                  have Ny448 := Aside0.mk hy448
                  clear hy448
                  have H' := Aside0.mk H
                  clear H
                  have p446 : 0 ≤ (x7_1 : Int) := of_decide_eq_true (by first | (with_reducible assumption) | assumption)
                  have q446 : x7_1 < (l0.length : Int) := of_decide_eq_true (by first | (with_reducible assumption) | assumption)
                  obtain ⟨ad446, e446, hx446_0⟩ := Kd.at_int HR0.out x7_1 p446 q446
                  cases e446
                  replace hx446_0 := (HB.out.cell (World.block_lt_of_cell? w _ hx446_0)).trans hx446_0
                  replace p446 := eq_true p446
                  replace q446 := eq_true q446
                  have p447 : 0 ≤ (x7_1 : Int) := of_decide_eq_true (by first | (with_reducible assumption) | assumption)
                  have q447 : x7_1 < (l1.length : Int) := of_decide_eq_true (by first | (with_reducible assumption) | assumption)
                  obtain ⟨ad447, e447, hx447_0⟩ := Kd.at_int HR1.out x7_1 p447 q447
                  cases e447
                  replace hx447_0 := (HB.out.cell (World.block_lt_of_cell? w _ hx447_0)).trans hx447_0
                  replace p447 := eq_true p447
                  replace q447 := eq_true q447
                  have p11 : 0 ≤ (x7_1 : Int) := of_decide_eq_true (by first | (with_reducible assumption) | assumption)
                  have q11 : (x7_1 : Int) < ((x5_1.length : Int) : Int) := of_decide_eq_true (by first | (with_reducible assumption) | assumption)
                  obtain ⟨go11, co11, eo11, gb11, gl11, cl11, HG11⟩ := Kd.R_form HO_5.out (by omega)
                  (first | cases eo11 | (injection eo11 with ea_ en_ ec_; (first | subst ea_ | (injection ea_ with ea_; subst ea_)); subst ec_; clear en_))
                  have GB11 := Aside0.mk gb11
                  have GG11 := Aside0.mk HG11
                  clear gb11 gl11 HG11
                  obtain ⟨hx11_0, hf11_0⟩ := Kd.R_celln 0 HO_5.out (x7_1 : Int) p11 q11
                  replace p11 := eq_true p11
                  replace q11 := eq_true q11
                  have HP12 := Kd.R_putg HO_5.out (x7_1 : Int) (Go.bits .and .u64 (IntKind.u64.wrap ((IntKind.u64.wrap (x6_1 + (rd l0 x7_1))) + (rd l1 x7_1))) 4294967295)
                  go_wp2_with (first | ((with_reducible refine gate_store (t := 169) (p := 28) rfl ?_); (try (rw [drewN_self wr]; generalize hq_ : World.drewN wr _ = wr; have n0_ := Aside0.mk (Kd.R_at hq_ HO_5.out); have n1_ := Aside0.mk (below_at hq_ HB.out); clear hq_ HO_5 HB; have HO_5 := n0_; have HB := n1_; clear n0_ n1_; (try (obtain ⟨hxr_, hfr_⟩ := Kd.R_celln 0 HO_5.out (x7_1 : Int) (of_eq_true p11) (of_eq_true q11))); (try (have HP12 := Kd.R_putg HO_5.out (x7_1 : Int) (Go.bits .and .u64 (IntKind.u64.wrap ((IntKind.u64.wrap (x6_1 + (rd l0 x7_1))) + (rd l1 x7_1))) 4294967295))))); refine store_event (t := 169) (p := 28) (v := ?vo_w13) (w1 := (wr.setCell ⟨go11, (x7_1 : Int).toNat, none⟩ (.int .u64 (Go.bits .and .u64 (IntKind.u64.wrap ((IntKind.u64.wrap (x6_1 + (rd l0 x7_1))) + (rd l1 x7_1))) 4294967295)))) ?hg ?ho ?hn ?hr ?_; (case ho => rfl); (case hg => rfl); (case hn => rfl); (case hr => first | (go_simp; done) | (go_simp; rfl)); intro w13 hw; have hg : wr.grownBy w13 (some go11) := (by rw [hw]; exact HP12.2); have hp_ : Kd.R (Kd.int .u64) 169 w13 w.heap.size (fun _ => True) (.slice (some ⟨go11, 0, none⟩) x5_1.length co11) y448 := (by rw [hw, Ny448.out]; exact HP12.1); clear HP12; have n0_ := Aside0.mk (hp_); have n1_ := Aside0.mk ((by rw [hw]; exact kD (HB.out) GB11.out : Below w.heap.size w w13)); clear HO_5; clear HB; have HO_5 := n0_; have HB := n1_; clear n0_ n1_; clear hg hw hp_))
                  repeat (go_quiet (first | ((with_reducible refine gate_store (t := 169) (p := 28) rfl ?_); (try (rw [drewN_self wr]; generalize hq_ : World.drewN wr _ = wr; have n0_ := Aside0.mk (Kd.R_at hq_ HO_5.out); have n1_ := Aside0.mk (below_at hq_ HB.out); clear hq_ HO_5 HB; have HO_5 := n0_; have HB := n1_; clear n0_ n1_; (try (obtain ⟨hxr_, hfr_⟩ := Kd.R_celln 0 HO_5.out (x7_1 : Int) (of_eq_true p11) (of_eq_true q11))); (try (have HP12 := Kd.R_putg HO_5.out (x7_1 : Int) (Go.bits .and .u64 (IntKind.u64.wrap ((IntKind.u64.wrap (x6_1 + (rd l0 x7_1))) + (rd l1 x7_1))) 4294967295))))); refine store_event (t := 169) (p := 28) (v := ?vo_w13) (w1 := (wr.setCell ⟨go11, (x7_1 : Int).toNat, none⟩ (.int .u64 (Go.bits .and .u64 (IntKind.u64.wrap ((IntKind.u64.wrap (x6_1 + (rd l0 x7_1))) + (rd l1 x7_1))) 4294967295)))) ?hg ?ho ?hn ?hr ?_; (case ho => rfl); (case hg => rfl); (case hn => rfl); (case hr => first | (go_simp; done) | (go_simp; rfl)); intro w13 hw; have hg : wr.grownBy w13 (some go11) := (by rw [hw]; exact HP12.2); have hp_ : Kd.R (Kd.int .u64) 169 w13 w.heap.size (fun _ => True) (.slice (some ⟨go11, 0, none⟩) x5_1.length co11) y448 := (by rw [hw, Ny448.out]; exact HP12.1); clear HP12; have n0_ := Aside0.mk (hp_); have n1_ := Aside0.mk ((by rw [hw]; exact kD (HB.out) GB11.out : Below w.heap.size w w13)); clear HO_5; clear HB; have HO_5 := n0_; have HB := n1_; clear n0_ n1_; clear hg hw hp_)); try go_wp2_with (first | ((with_reducible refine gate_store (t := 169) (p := 28) rfl ?_); (try (rw [drewN_self wr]; generalize hq_ : World.drewN wr _ = wr; have n0_ := Aside0.mk (Kd.R_at hq_ HO_5.out); have n1_ := Aside0.mk (below_at hq_ HB.out); clear hq_ HO_5 HB; have HO_5 := n0_; have HB := n1_; clear n0_ n1_; (try (obtain ⟨hxr_, hfr_⟩ := Kd.R_celln 0 HO_5.out (x7_1 : Int) (of_eq_true p11) (of_eq_true q11))); (try (have HP12 := Kd.R_putg HO_5.out (x7_1 : Int) (Go.bits .and .u64 (IntKind.u64.wrap ((IntKind.u64.wrap (x6_1 + (rd l0 x7_1))) + (rd l1 x7_1))) 4294967295))))); refine store_event (t := 169) (p := 28) (v := ?vo_w13) (w1 := (wr.setCell ⟨go11, (x7_1 : Int).toNat, none⟩ (.int .u64 (Go.bits .and .u64 (IntKind.u64.wrap ((IntKind.u64.wrap (x6_1 + (rd l0 x7_1))) + (rd l1 x7_1))) 4294967295)))) ?hg ?ho ?hn ?hr ?_; (case ho => rfl); (case hg => rfl); (case hn => rfl); (case hr => first | (go_simp; done) | (go_simp; rfl)); intro w13 hw; have hg : wr.grownBy w13 (some go11) := (by rw [hw]; exact HP12.2); have hp_ : Kd.R (Kd.int .u64) 169 w13 w.heap.size (fun _ => True) (.slice (some ⟨go11, 0, none⟩) x5_1.length co11) y448 := (by rw [hw, Ny448.out]; exact HP12.1); clear HP12; have n0_ := Aside0.mk (hp_); have n1_ := Aside0.mk ((by rw [hw]; exact kD (HB.out) GB11.out : Below w.heap.size w w13)); clear HO_5; clear HB; have HO_5 := n0_; have HB := n1_; clear n0_ n1_; clear hg hw hp_)))
                  go_roundg k1
                  case measure => have := HK1.out; omega
                  case rel => exact ⟨(y448), ((IntKind.u64.wrap ((IntKind.u64.wrap (x6_1 + (rd l0 x7_1))) + (rd l1 x7_1))) / 4294967296), (wrap64 (x7_1 + 1)), (by first | rfl | (simp; done) | (simp [*]; done)), (by first | rfl | (simp; done) | (simp [*]; done)), H', ⟨by have := HK1.out; omega⟩, ⟨by (with_reducible repeat (first | apply Kd.R_alloc | apply Kd.R_drewN | apply Kd.R_drew)); exact HO_5.out⟩, ⟨by repeat (first | (with_reducible first | exact HB.out | apply kC | apply kA | apply kB) | exact HB.out)⟩⟩
                · rw [if_neg c10] at H
                  exact absurd H (by simp)
              · rw [if_neg c9] at H
                exact absurd H (by simp)
            · rw [if_neg c8] at H
              exact absurd H (by simp)
          · rw [if_neg c7] at H
            exact absurd H (by simp)
        · rw [if_neg c6] at H
          have c6b0 : decide (x7_1 < 6) = false := decide_eq_false c6
          clear c6
          obtain rfl := Option.some.inj H
          go_wp2
          repeat (go_quiet (fail); try go_wp2)
          go_ret
          exact ⟨_, by first | rfl | (simp [errW_none, errW_some] <;> rfl) | (simp [*, errW_none, errW_some] <;> rfl), by (with_reducible repeat (first | apply Kd.R_alloc | apply Kd.R_drewN | apply Kd.R_drew)); exact HO_5.out, by repeat (first | (with_reducible first | exact HB.out | apply kC | apply kA | apply kB) | exact HB.out)⟩
  · rw [if_neg c3] at H
    exact absurd H (by simp)
end Go.Proofs.YthkmckmfgglafaaGreat.P
namespace Go.Proofs.YthkmckmfgglafaaGreat.P
open Go.RowKit Go.Proofs.YthkmckmfgglafaaGreatW.PrintWords Go.Proofs.YthkmckmfgglafaaGreatW.PrintLast Go.Proofs.YthkmckmfgglafaaGreatW.PrintMore
attribute [local go_sem] max2_int min2_int max_two min_two max_three min_three max_four min_four   -- for this text's walks alone
set_option linter.unusedVariables false
set_option linter.unusedSimpArgs false
def computusref01_cmp.l0 : Nat → List Int → List Int → Int → Option (Int)
  | 0, _, _, _ => none
  | k + 1, x0, x1, x5 => if x5 ≥ 0 then (if 0 ≤ x5 then (if x5 < (x0.length : Int) then (if x5 < (x1.length : Int) then (if (rd x0 x5) < (rd x1 x5) then (some (-1)) else (if (rd x0 x5) > (rd x1 x5) then (some 1) else (computusref01_cmp.l0 k x0 x1 (wrap64 (x5 - 1))))) else (none)) else (none)) else (none)) else (some 0)
def computusref01_cmp.f (k : Nat) (l0 : List Int) (l1 : List Int) : Option (Int) := computusref01_cmp.l0 k l0 l1 5
theorem computusref01_cmp.mono_l : ∀ k, (∀ y0 y1 y2, LeO (computusref01_cmp.l0 k y0 y1 y2) (computusref01_cmp.l0 (k + 1) y0 y1 y2))
  | 0 => fun _ _ _ r h => by simp [computusref01_cmp.l0] at h
  | k + 1 => by
    have ih0 := computusref01_cmp.mono_l k
    · intro y0 y1 y2
      unfold computusref01_cmp.l0
      repeat' first
      | (with_reducible exact ih0 _ _ _)
      | (with_reducible exact LeO.refl _)
      | (with_reducible exact LeO.none _)
      | (with_reducible refine LeO.ite ?_ ?_)
      | (with_reducible refine LeO.bind ?_ (fun _ => ?_))
      | exact ih0 _ _ _
      | exact LeO.none _
      | refine LeO.ite ?_ ?_
      | refine LeO.bind ?_ (fun _ => ?_)
theorem computusref01_cmp.mono : ∀ a0 a1 k, LeO (computusref01_cmp.f k a0 a1) (computusref01_cmp.f (k + 1) a0 a1) := by
  intro a0 a1 k
  have ih0 := computusref01_cmp.mono_l k
  unfold computusref01_cmp.f
  repeat' first
      | (with_reducible exact ih0 _ _ _)
      | (with_reducible exact LeO.refl _)
      | (with_reducible exact LeO.none _)
      | (with_reducible refine LeO.ite ?_ ?_)
      | (with_reducible refine LeO.bind ?_ (fun _ => ?_))
      | exact ih0 _ _ _
      | exact LeO.none _
      | refine LeO.ite ?_ ?_
      | refine LeO.bind ?_ (fun _ => ?_)
set_option maxHeartbeats 8000000 in
set_option maxRecDepth 100000 in
theorem computusref01_cmp.calls (k : Nat) (A0 : Option Addr) (c0 : Nat) (l0 : List Int) (A1 : Option Addr) (c1 : Nat) (l1 : List Int) (r : Int) (w : World) (hr0 : Kd.C (Kd.int .u64) w A0 l0.length l0) (hc0 : l0.length ≤ c0) (hr1 : Kd.C (Kd.int .u64) w A1 l1.length l1) (hc1 : l1.length ≤ c1) (h : computusref01_cmp.f k l0 l1 = some r) :
    Calls Tryz.prog 183 #[.slice A0 l0.length c0, .slice A1 l1.length c1] w fun e w' => e = .returned (.int .i64 r) ∧ Drawn0 w w' := by
  have HR0 := Aside0.mk hr0
  have HC0 := Aside0.mk hc0
  clear hr0 hc0
  have HR1 := Aside0.mk hr1
  have HC1 := Aside0.mk hc1
  clear hr1 hc1
  have H : (computusref01_cmp.l0 k l0 l1 5) = some r := h
  clear h
  have H' := Aside0.mk H
  clear H
  go_enter Tryz.func183, Tryz.ntmps183
  go_wp2
  repeat (go_quiet (fail); try go_wp2)
  go_loopg [5] k (fun kq v5 w' => ∃ (x5_1 : Int), v5 = .int .i64 x5_1 ∧ Aside0 (computusref01_cmp.l0 kq l0 l1 x5_1 = some r) ∧ Aside0 (kq ≤ k) ∧ Drawn0 w w')
  case atStart => exact ⟨(5), (by first | rfl | (simp; done) | (simp [*]; done)), H', ⟨Nat.le_refl _⟩, by repeat (first | exact Drawn0.refl _ | apply Drawn0.step)⟩
  case round =>
    clear H'
    try clear c1
    try clear p2
    obtain ⟨x5_1, rfl, HA, HK1, ⟨m1, rfl⟩⟩ := hrel
    cases gk with
    | zero => exact absurd HA.out (by simp [computusref01_cmp.l0])
    | succ k1 =>
      have H := HA.out
      clear HA
      simp only [computusref01_cmp.l0] at H
      by_cases c3 : x5_1 ≥ 0
      · rw [if_pos c3] at H
        have c3b0 : decide (0 ≤ x5_1) = true := decide_eq_true c3
        clear c3
        by_cases c4 : 0 ≤ x5_1
        · rw [if_pos c4] at H
          have c4b0 : decide (0 ≤ x5_1) = true := decide_eq_true c4
          clear c4
          by_cases c5 : x5_1 < (l0.length : Int)
          · rw [if_pos c5] at H
            have c5b0 : decide (x5_1 < (l0.length : Int)) = true := decide_eq_true c5
            clear c5
            by_cases c6 : x5_1 < (l1.length : Int)
            · rw [if_pos c6] at H
              have c6b0 : decide (x5_1 < (l1.length : Int)) = true := decide_eq_true c6
              clear c6
              by_cases c7 : (rd l0 x5_1) < (rd l1 x5_1)
              · rw [if_pos c7] at H
                have c7b0 : decide ((rd l0 x5_1) < (rd l1 x5_1)) = true := decide_eq_true c7
                clear c7
                obtain rfl := Option.some.inj H
                have p449 : 0 ≤ (x5_1 : Int) := of_decide_eq_true (by first | (with_reducible assumption) | assumption)
                have q449 : x5_1 < (l0.length : Int) := of_decide_eq_true (by first | (with_reducible assumption) | assumption)
                obtain ⟨ad449, e449, hx449_0⟩ := Kd.at_int HR0.out x5_1 p449 q449
                cases e449
                replace p449 := eq_true p449
                replace q449 := eq_true q449
                have p450 : 0 ≤ (x5_1 : Int) := of_decide_eq_true (by first | (with_reducible assumption) | assumption)
                have q450 : x5_1 < (l1.length : Int) := of_decide_eq_true (by first | (with_reducible assumption) | assumption)
                obtain ⟨ad450, e450, hx450_0⟩ := Kd.at_int HR1.out x5_1 p450 q450
                cases e450
                replace p450 := eq_true p450
                replace q450 := eq_true q450
                go_wp2
                repeat (go_quiet (fail); try go_wp2)
                go_ret
                exact ⟨by first | rfl | (simp; done) | (simp [*]; done), by repeat (first | exact Drawn0.refl _ | apply Drawn0.step)⟩
              · rw [if_neg c7] at H
                have c7b0 : decide ((rd l0 x5_1) < (rd l1 x5_1)) = false := decide_eq_false c7
                clear c7
                by_cases c8 : (rd l0 x5_1) > (rd l1 x5_1)
                · rw [if_pos c8] at H
                  have c8b0 : decide ((rd l1 x5_1) < (rd l0 x5_1)) = true := decide_eq_true c8
                  clear c8
                  obtain rfl := Option.some.inj H
                  have p449 : 0 ≤ (x5_1 : Int) := of_decide_eq_true (by first | (with_reducible assumption) | assumption)
                  have q449 : x5_1 < (l0.length : Int) := of_decide_eq_true (by first | (with_reducible assumption) | assumption)
                  obtain ⟨ad449, e449, hx449_0⟩ := Kd.at_int HR0.out x5_1 p449 q449
                  cases e449
                  replace p449 := eq_true p449
                  replace q449 := eq_true q449
                  have p450 : 0 ≤ (x5_1 : Int) := of_decide_eq_true (by first | (with_reducible assumption) | assumption)
                  have q450 : x5_1 < (l1.length : Int) := of_decide_eq_true (by first | (with_reducible assumption) | assumption)
                  obtain ⟨ad450, e450, hx450_0⟩ := Kd.at_int HR1.out x5_1 p450 q450
                  cases e450
                  replace p450 := eq_true p450
                  replace q450 := eq_true q450
                  have p451 : 0 ≤ (x5_1 : Int) := of_decide_eq_true (by first | (with_reducible assumption) | assumption)
                  have q451 : x5_1 < (l0.length : Int) := of_decide_eq_true (by first | (with_reducible assumption) | assumption)
                  obtain ⟨ad451, e451, hx451_0⟩ := Kd.at_int HR0.out x5_1 p451 q451
                  obtain rfl : ad449 = ad451 := (by injection e451)
                  replace p451 := eq_true p451
                  replace q451 := eq_true q451
                  have p452 : 0 ≤ (x5_1 : Int) := of_decide_eq_true (by first | (with_reducible assumption) | assumption)
                  have q452 : x5_1 < (l1.length : Int) := of_decide_eq_true (by first | (with_reducible assumption) | assumption)
                  obtain ⟨ad452, e452, hx452_0⟩ := Kd.at_int HR1.out x5_1 p452 q452
                  obtain rfl : ad450 = ad452 := (by injection e452)
                  replace p452 := eq_true p452
                  replace q452 := eq_true q452
                  go_wp2
                  repeat (go_quiet (fail); try go_wp2)
                  go_ret
                  exact ⟨by first | rfl | (simp; done) | (simp [*]; done), by repeat (first | exact Drawn0.refl _ | apply Drawn0.step)⟩
                · rw [if_neg c8] at H
                  have c8b0 : decide ((rd l1 x5_1) < (rd l0 x5_1)) = false := decide_eq_false c8
                  clear c8
                  have H' := Aside0.mk H
                  clear H
                  have p449 : 0 ≤ (x5_1 : Int) := of_decide_eq_true (by first | (with_reducible assumption) | assumption)
                  have q449 : x5_1 < (l0.length : Int) := of_decide_eq_true (by first | (with_reducible assumption) | assumption)
                  obtain ⟨ad449, e449, hx449_0⟩ := Kd.at_int HR0.out x5_1 p449 q449
                  cases e449
                  replace p449 := eq_true p449
                  replace q449 := eq_true q449
                  have p450 : 0 ≤ (x5_1 : Int) := of_decide_eq_true (by first | (with_reducible assumption) | assumption)
                  have q450 : x5_1 < (l1.length : Int) := of_decide_eq_true (by first | (with_reducible assumption) | assumption)
                  obtain ⟨ad450, e450, hx450_0⟩ := Kd.at_int HR1.out x5_1 p450 q450
                  cases e450
                  replace p450 := eq_true p450
                  replace q450 := eq_true q450
                  have p451 : 0 ≤ (x5_1 : Int) := of_decide_eq_true (by first | (with_reducible assumption) | assumption)
                  have q451 : x5_1 < (l0.length : Int) := of_decide_eq_true (by first | (with_reducible assumption) | assumption)
                  obtain ⟨ad451, e451, hx451_0⟩ := Kd.at_int HR0.out x5_1 p451 q451
                  obtain rfl : ad449 = ad451 := (by injection e451)
                  replace p451 := eq_true p451
                  replace q451 := eq_true q451
                  have p452 : 0 ≤ (x5_1 : Int) := of_decide_eq_true (by first | (with_reducible assumption) | assumption)
                  have q452 : x5_1 < (l1.length : Int) := of_decide_eq_true (by first | (with_reducible assumption) | assumption)
                  obtain ⟨ad452, e452, hx452_0⟩ := Kd.at_int HR1.out x5_1 p452 q452
                  obtain rfl : ad450 = ad452 := (by injection e452)
                  replace p452 := eq_true p452
                  replace q452 := eq_true q452
                  go_wp2
                  repeat (go_quiet (fail); try go_wp2)
                  go_roundg k1
                  case measure => have := HK1.out; omega
                  case rel => exact ⟨(wrap64 (x5_1 - 1)), (by first | rfl | (simp; done) | (simp [*]; done)), H', ⟨by have := HK1.out; omega⟩, by repeat (first | exact Drawn0.refl _ | apply Drawn0.step)⟩
            · rw [if_neg c6] at H
              exact absurd H (by simp)
          · rw [if_neg c5] at H
            exact absurd H (by simp)
        · rw [if_neg c4] at H
          exact absurd H (by simp)
      · rw [if_neg c3] at H
        have c3b0 : decide (0 ≤ x5_1) = false := decide_eq_false c3
        clear c3
        obtain rfl := Option.some.inj H
        go_wp2
        repeat (go_quiet (fail); try go_wp2)
        go_ret
        exact ⟨by first | rfl | (simp; done) | (simp [*]; done), by repeat (first | exact Drawn0.refl _ | apply Drawn0.step)⟩
end Go.Proofs.YthkmckmfgglafaaGreat.P
