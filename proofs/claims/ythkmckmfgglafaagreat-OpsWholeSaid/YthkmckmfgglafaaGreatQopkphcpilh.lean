-- Written by a program of the session (a print of the seat's translation, functions given by hand among it). Lean checks it.
import Derived.Test.YthkmckmfgglafaaGreatQeiellgheod
import Derived.Test.YthkmckmfgglafaaGreatQmhlbijnfcd
import Derived.Test.YthkmckmfgglafaaGreatQfffdgmglkb
import Derived.Test.YthkmckmfgglafaaGreatQeblgjmhjig
import Derived.Test.YthkmckmfgglafaaGreatQfnpikkheib
import Derived.Test.YthkmckmfgglafaaGreatQmkjlcblnfm
namespace Go.Proofs.YthkmckmfgglafaaGreat.P
open Go.RowKit Go.Proofs.YthkmckmfgglafaaGreatW.PrintWords Go.Proofs.YthkmckmfgglafaaGreatW.PrintLast Go.Proofs.YthkmckmfgglafaaGreatW.PrintMore
attribute [local go_sem] max2_int min2_int max_two min_two max_three min_three max_four min_four   -- for this text's walks alone
set_option linter.unusedVariables false
set_option linter.unusedSimpArgs false
mutual
def computuslaw20_OpsWhole.j0 : Nat → Int → Int → Int → Int → Int → Int → Option (Bool)
  | 0, _, _, _, _, _, _ => none
  | k + 1, x0, x1, x599000, x599001, x600000, x600001 => if x1 < 0 then (computuslaw20_OpsWhole.j1 k x0 (wrap64 (-x1)) x599000 x599001 x600000 x600001) else (computuslaw20_OpsWhole.j1 k x0 x1 x599000 x599001 x600000 x600001)
def computuslaw20_OpsWhole.j1 : Nat → Int → Int → Int → Int → Int → Int → Option (Bool)
  | 0, _, _, _, _, _, _ => none
  | k + 1, x0, x1, x599000, x599001, x600000, x600001 => (ops_Bin.f k 0 0 x0 x1 x599000 x599001 x600000 x600001).bind fun bt600 => (if (wrap64 ((wrap64 (x0 * 86400000000)) + x1)) = 0 then (if bt600.2.2 = 0 then (some false) else ((computuslaw20_known.f).bind fun t604 => (some t604))) else (if bt600.2.2 = 0 then (computuslaw20_OpsWhole.j2 k (wrap64 ((wrap64 (x0 * 86400000000)) + x1)) (x599000 != 0) x599000 x599001 x600000 x600001 bt600.1 bt600.2.1) else (computuslaw20_OpsWhole.j2 k (wrap64 ((wrap64 (x0 * 86400000000)) + x1)) true x599000 x599001 x600000 x600001 bt600.1 bt600.2.1)))
def computuslaw20_OpsWhole.j2 : Nat → Int → Bool → Int → Int → Int → Int → Int → Int → Option (Bool)
  | 0, _, _, _, _, _, _, _, _ => none
  | k + 1, x9, x52, x599000, x599001, x600000, x600001, x604000, x604001 => if x52 = true then ((computuslaw20_known.f).bind fun t605 => (some t605)) else (if x9 = 0 then (none) else (if (Int.tmod x604001 x9) < 0 then (if (Int.tmod x600001 x9) < 0 then (if x604001 ≤ x599001 then (if (wrap64 (x599001 - x604001)) < x9 then (if (wrap64 ((Int.tmod x604001 x9) + x9)) = (wrap64 ((Int.tmod x600001 x9) + x9)) then ((computuslaw20_known.f).bind fun t606 => (some t606)) else (some false)) else (some false)) else (some false)) else (if x604001 ≤ x599001 then (if (wrap64 (x599001 - x604001)) < x9 then (if (wrap64 ((Int.tmod x604001 x9) + x9)) = (Int.tmod x600001 x9) then ((computuslaw20_known.f).bind fun t607 => (some t607)) else (some false)) else (some false)) else (some false))) else (if (Int.tmod x600001 x9) < 0 then (if x604001 ≤ x599001 then (if (wrap64 (x599001 - x604001)) < x9 then (if (Int.tmod x604001 x9) = (wrap64 ((Int.tmod x600001 x9) + x9)) then ((computuslaw20_known.f).bind fun t608 => (some t608)) else (some false)) else (some false)) else (some false)) else (if x604001 ≤ x599001 then (if (wrap64 (x599001 - x604001)) < x9 then (if (Int.tmod x604001 x9) = (Int.tmod x600001 x9) then ((computuslaw20_known.f).bind fun t609 => (some t609)) else (some false)) else (some false)) else (some false)))))
end
def computuslaw20_OpsWhole.f (k : Nat) (a0 : Int) (a1 : Int) (a2_0 : Int) (a2_1 : Int) (a3_0 : Int) (a3_1 : Int) : Option (Bool) := if (Int.tmod a0 1000) < 0 then (computuslaw20_OpsWhole.j0 k (wrap64 (-(Int.tmod a0 1000))) (Int.tmod a1 86400000000000) a2_0 a2_1 a3_0 a3_1) else (computuslaw20_OpsWhole.j0 k (Int.tmod a0 1000) (Int.tmod a1 86400000000000) a2_0 a2_1 a3_0 a3_1)
set_option maxHeartbeats 8000000 in
set_option maxRecDepth 100000 in
theorem computuslaw20_OpsWhole.calls (k : Nat) (a0 : Int) (a1 : Int) (a2_0 : Int) (a2_1 : Int) (a3_0 : Int) (a3_1 : Int) (r : Bool) (w : World) (h : computuslaw20_OpsWhole.f k a0 a1 a2_0 a2_1 a3_0 a3_1 = some r) (hR : r = true) :
    Calls Tryz.prog 4 #[.int .i64 a0, .int .i64 a1, .agg #[.int .i64 a2_0, .int .i64 a2_1], .agg #[.int .i64 a3_0, .int .i64 a3_1]] w fun e w' => e = .returned (.bool r) ∧ Below w.heap.size w w' := by
  have HRT := Aside0.mk hR
  clear hR
  have hu23 := Tryz.underlying23
  have hu32 := Tryz.underlying32
  have HB := Aside0.mk (Below.refl w.heap.size w)
  have H : (if (Int.tmod a0 1000) < 0 then (computuslaw20_OpsWhole.j0 k (wrap64 (-(Int.tmod a0 1000))) (Int.tmod a1 86400000000000) a2_0 a2_1 a3_0 a3_1) else (computuslaw20_OpsWhole.j0 k (Int.tmod a0 1000) (Int.tmod a1 86400000000000) a2_0 a2_1 a3_0 a3_1)) = some r := h
  clear h
  have HC5 := Aside0.mk H
  clear H
  go_enter Tryz.func4, Tryz.ntmps4
  go_upto_if 19 with (first | ((with_reducible refine gate_dst (N := 6) rfl ?_); refine kO ?hg (N := 6) ?hd (cs := #[.int .i64 a2_0, .int .i64 a2_1]) (t := 23) ?hr ?_; (case hd => rfl); (case hg => rfl); (case hr => first | (go_simp; done) | (go_simp; rfl)); intro gb598 hg w6 hbox hb; have n0_ := Aside0.mk (kJ (by repeat (first | (with_reducible first | exact HB.out | apply kB | apply kA | apply kC) | exact HB.out)) hb); have n1_ := Aside0.mk (hbox); have n2_ := Aside0.mk ((by rw [hg]; exact (kL (by repeat (first | (with_reducible first | exact HB.out | apply kB | apply kA | apply kC) | exact HB.out))) : w.heap.size ≤ gb598)); have n3_ := Aside0.mk ((by rw [hg]; exact (kL (by repeat (first | (with_reducible first | exact HB.out | apply kB | apply kA | apply kC) | exact HB.out))) : w.heap.size ≤ gb598)); clear HB; have HB := n0_; have BK598 := n1_; have GW598 := n2_; have GE598 := n3_; clear n0_ n1_ n2_ n3_; clear hb hbox hg) | ((with_reducible refine gate_dst (N := 7) rfl ?_); refine kO ?hg (N := 7) ?hd (cs := #[.int .i64 a3_0, .int .i64 a3_1]) (t := 23) ?hr ?_; (case hd => rfl); (case hg => rfl); (case hr => first | (go_simp; done) | (go_simp; rfl)); intro gb599 hg w7 hbox hb; have n0_ := Aside0.mk (kM (g := gb598) (o := .cells #[.int .i64 a2_0, .int .i64 a2_1] 23 (0, 0)) (by (with_reducible repeat (first | refine kE ?_ _ | refine kH ?_ | refine kF ?_ _)); exact BK598.out) hb); have n1_ := Aside0.mk (kJ (by repeat (first | (with_reducible first | exact HB.out | apply kB | apply kA | apply kC | refine kD ?_ GE598.out) | exact HB.out)) hb); have n2_ := Aside0.mk (hbox); have n3_ := Aside0.mk ((by rw [hg]; exact (kL (by repeat (first | (with_reducible first | exact HB.out | apply kB | apply kA | apply kC | refine kD ?_ GE598.out) | exact HB.out))) : w.heap.size ≤ gb599)); have n4_ := Aside0.mk ((by rw [hg]; exact (kL (by repeat (first | (with_reducible first | exact HB.out | apply kB | apply kA | apply kC | refine kD ?_ GE598.out) | exact HB.out))) : w.heap.size ≤ gb599)); have n5_ := Aside0.mk ((by rw [hg]; exact Nat.ne_of_lt (blk_lt (g := gb598) (o := .cells #[.int .i64 a2_0, .int .i64 a2_1] 23 (0, 0)) (by (with_reducible repeat (first | refine kE ?_ _ | refine kH ?_ | refine kF ?_ _)); exact BK598.out)) : gb598 ≠ gb599)); have n6_ := Aside0.mk ((by rw [hg]; exact Nat.ne_of_gt (blk_lt (g := gb598) (o := .cells #[.int .i64 a2_0, .int .i64 a2_1] 23 (0, 0)) (by (with_reducible repeat (first | refine kE ?_ _ | refine kH ?_ | refine kF ?_ _)); exact BK598.out)) : gb599 ≠ gb598)); clear BK598; clear HB; have BK598 := n0_; have HB := n1_; have BK599 := n2_; have GW599 := n3_; have GE599 := n4_; have NB598_599 := n5_; have NB599_598 := n6_; clear n0_ n1_ n2_ n3_ n4_ n5_ n6_; clear hb hbox hg))
  (try simp only [Act.put, List.setIfInBounds_toArray, List.set_cons_zero, List.set_cons_succ])
  go_cut [0] (fun v0 wc => ∃ (kq : Nat) (x0_4 : Int), v0 = .int .i64 x0_4 ∧ Aside0 (computuslaw20_OpsWhole.j0 kq x0_4 (Int.tmod a1 86400000000000) a2_0 a2_1 a3_0 a3_1 = some r) ∧ Aside0 (kq ≤ k) ∧ Aside0 (wc.heap[gb598]? = some (.cells #[.int .i64 a2_0, .int .i64 a2_1] 23 (0, 0))) ∧ Aside0 (wc.heap[gb599]? = some (.cells #[.int .i64 a3_0, .int .i64 a3_1] 23 (0, 0))) ∧ Aside0 (Below w.heap.size w wc))
  case first =>
    have H := HC5.out
    clear HC5
    by_cases c8 : (Int.tmod a0 1000) < 0
    · rw [if_pos c8] at H
      have c8b0 : decide ((Int.tmod a0 1000) < 0) = true := decide_eq_true c8
      clear c8
      (first | rw [c8b0] | (simp only [i64_w, i32_w]; rw [c8b0]) | skip)
      have H' := Aside0.mk H
      clear H
      go_wp2
      go_meet
      case rel => exact ⟨_, (wrap64 (-(Int.tmod a0 1000))), (by first | rfl | (simp; done) | (simp [*]; done)), H', ⟨by first | omega | exact Nat.le_refl _⟩, ⟨by (with_reducible repeat (first | refine kE ?_ _ | refine kH ?_ | refine kF ?_ _)); exact BK598.out⟩, ⟨by (with_reducible repeat (first | refine kE ?_ _ | refine kH ?_ | refine kF ?_ _)); exact BK599.out⟩, ⟨by repeat (first | (with_reducible first | exact HB.out | apply kB | apply kA | apply kC | refine kD ?_ GE598.out | refine kD ?_ GE599.out) | exact HB.out)⟩⟩
    · rw [if_neg c8] at H
      have c8b0 : decide ((Int.tmod a0 1000) < 0) = false := decide_eq_false c8
      clear c8
      (first | rw [c8b0] | (simp only [i64_w, i32_w]; rw [c8b0]) | skip)
      have H' := Aside0.mk H
      clear H
      go_wp2
      go_meet
      case rel => exact ⟨_, (Int.tmod a0 1000), (by first | rfl | (simp; done) | (simp [*]; done)), H', ⟨by first | omega | exact Nat.le_refl _⟩, ⟨by (with_reducible repeat (first | refine kE ?_ _ | refine kH ?_ | refine kF ?_ _)); exact BK598.out⟩, ⟨by (with_reducible repeat (first | refine kE ?_ _ | refine kH ?_ | refine kF ?_ _)); exact BK599.out⟩, ⟨by repeat (first | (with_reducible first | exact HB.out | apply kB | apply kA | apply kC | refine kD ?_ GE598.out | refine kD ?_ GE599.out) | exact HB.out)⟩⟩
  case rest =>
    clear HC5
    try clear p2
    try clear c4
    try clear p6
    try clear c8
    try clear c8b0
    obtain ⟨kq, x0_4, rfl, HA, HJ4, BK598, BK599, HB⟩ := hcut
    cases kq with
    | zero => exact absurd HA.out (by simp [computuslaw20_OpsWhole.j0])
    | succ kj4 =>
      have H := HA.out
      clear HA
      simp only [computuslaw20_OpsWhole.j0] at H
      have HC9 := Aside0.mk H
      clear H
      go_upto_if 23 with (fail)
      go_cut [1] (fun v1 wc => ∃ (kq : Nat) (x1_8 : Int), v1 = .int .i64 x1_8 ∧ Aside0 (computuslaw20_OpsWhole.j1 kq x0_4 x1_8 a2_0 a2_1 a3_0 a3_1 = some r) ∧ Aside0 (kq ≤ kj4) ∧ Aside0 (wc.heap[gb598]? = some (.cells #[.int .i64 a2_0, .int .i64 a2_1] 23 (0, 0))) ∧ Aside0 (wc.heap[gb599]? = some (.cells #[.int .i64 a3_0, .int .i64 a3_1] 23 (0, 0))) ∧ Aside0 (Below w.heap.size w wc))
      case first =>
        have H := HC9.out
        clear HC9
        by_cases c10 : (Int.tmod a1 86400000000000) < 0
        · rw [if_pos c10] at H
          have c10b0 : decide ((Int.tmod a1 86400000000000) < 0) = true := decide_eq_true c10
          clear c10
          (first | rw [c10b0] | (simp only [i64_w, i32_w]; rw [c10b0]) | skip)
          have H' := Aside0.mk H
          clear H
          go_wp2
          go_meet
          case rel => exact ⟨_, (wrap64 (-(Int.tmod a1 86400000000000))), (by first | rfl | (simp; done) | (simp [*]; done)), H', ⟨by have := HJ4.out; first | omega | exact Nat.le_refl _⟩, ⟨by (with_reducible repeat (first | refine kE ?_ _ | refine kH ?_ | refine kF ?_ _)); exact BK598.out⟩, ⟨by (with_reducible repeat (first | refine kE ?_ _ | refine kH ?_ | refine kF ?_ _)); exact BK599.out⟩, ⟨by repeat (first | (with_reducible first | exact HB.out | apply kB | apply kA | apply kC | refine kD ?_ GE598.out | refine kD ?_ GE599.out) | exact HB.out)⟩⟩
        · rw [if_neg c10] at H
          have c10b0 : decide ((Int.tmod a1 86400000000000) < 0) = false := decide_eq_false c10
          clear c10
          (first | rw [c10b0] | (simp only [i64_w, i32_w]; rw [c10b0]) | skip)
          have H' := Aside0.mk H
          clear H
          go_wp2
          go_meet
          case rel => exact ⟨_, ((Int.tmod a1 86400000000000)), (by first | rfl | (simp; done) | (simp [*]; done)), H', ⟨by have := HJ4.out; first | omega | exact Nat.le_refl _⟩, ⟨by (with_reducible repeat (first | refine kE ?_ _ | refine kH ?_ | refine kF ?_ _)); exact BK598.out⟩, ⟨by (with_reducible repeat (first | refine kE ?_ _ | refine kH ?_ | refine kF ?_ _)); exact BK599.out⟩, ⟨by repeat (first | (with_reducible first | exact HB.out | apply kB | apply kA | apply kC | refine kD ?_ GE598.out | refine kD ?_ GE599.out) | exact HB.out)⟩⟩
      case rest =>
        clear HC9
        try clear c1
        try clear p2
        try clear c4
        try clear p6
        try clear c8
        try clear c8b0
        try clear c10
        try clear c10b0
        try clear p2
        try clear p6
        obtain ⟨kq, x1_8, rfl, HA, HJ8, BK598, BK599, HB⟩ := hcut
        cases kq with
        | zero => exact absurd HA.out (by simp [computuslaw20_OpsWhole.j1])
        | succ kj8 =>
          have H := HA.out
          clear HA
          simp only [computuslaw20_OpsWhole.j1] at H
          replace H := Option.bind_eq_some_iff.mp H
          obtain ⟨⟨t600, t601, t602⟩, A110, H⟩ := H
          replace H : (if (wrap64 ((wrap64 (x0_4 * 86400000000)) + x1_8)) = 0 then (if t602 = 0 then (some false) else ((computuslaw20_known.f).bind fun t604 => (some t604))) else (if t602 = 0 then (computuslaw20_OpsWhole.j2 kj8 (wrap64 ((wrap64 (x0_4 * 86400000000)) + x1_8)) (a2_0 != 0) a2_0 a2_1 a3_0 a3_1 t600 t601) else (computuslaw20_OpsWhole.j2 kj8 (wrap64 ((wrap64 (x0_4 * 86400000000)) + x1_8)) true a2_0 a2_1 a3_0 a3_1 t600 t601))) = some r := H
          have A11 := Aside0.mk A110
          clear A110
          by_cases c12 : (wrap64 ((wrap64 (x0_4 * 86400000000)) + x1_8)) = 0
          · rw [if_pos c12] at H
            have c12b0 : ((wrap64 ((wrap64 (x0_4 * 86400000000)) + x1_8)) == 0) = true := beq_iff_eq.mpr c12
            have c12b1 : ((wrap64 ((wrap64 (x0_4 * 86400000000)) + x1_8)) != 0) = false := bne_eq_false_iff_eq.mpr c12
            clear c12
            by_cases c13 : t602 = 0
            · rw [if_pos c13] at H
              have c13b0 : (t602 == 0) = true := beq_iff_eq.mpr c13
              have c13b1 : (t602 != 0) = false := bne_eq_false_iff_eq.mpr c13
              clear c13
              exact absurd (Option.some.inj H) (by rw [HRT.out]; decide)
            · rw [if_neg c13] at H
              have c13b0 : (t602 == 0) = false := beq_eq_false_iff_ne.mpr c13
              have c13b1 : (t602 != 0) = true := bne_iff_ne.mpr c13
              replace H := Option.bind_eq_some_iff.mp H
              obtain ⟨t604, A140, H⟩ := H
              replace H : (some t604) = some r := H
              have A14 := Aside0.mk A140
              clear A140
              obtain rfl := Option.some.inj H
              have hnb15 := NB598_599.out
              have hnc15 := NB599_598.out
              have hcz16_0 : wc.cell? ⟨gb598, 0, none⟩ = some (.int .i64 a2_0) := (kI BK598.out 0).trans rfl
              have hcz16_1 : wc.cell? ⟨gb598, 1, none⟩ = some (.int .i64 a2_1) := (kI BK598.out 1).trans rfl
              have hfz16_0 := kG BK598.out 0
              have hfz16_1 := kG BK598.out 1
              have hcz17_0 : wc.cell? ⟨gb599, 0, none⟩ = some (.int .i64 a3_0) := (kI BK599.out 0).trans rfl
              have hcz17_1 : wc.cell? ⟨gb599, 1, none⟩ = some (.int .i64 a3_1) := (kI BK599.out 1).trans rfl
              have hfz17_0 := kG BK599.out 0
              have hfz17_1 := kG BK599.out 1
              go_wp2_with (first | ((with_reducible refine kK (f := 12) rfl ?_); refine kN (some 36) rfl rfl Tryz.func12 (by kernel_rfl) rfl #[.agg #[.int .i64 0, .int .i64 0, .int .i64 x0_4, .int .i64 x1_8], .agg #[.int .i64 a2_0, .int .i64 a2_1], .agg #[.int .i64 a3_0, .int .i64 a3_1]] rfl (by (try simp only [List.map_toArray, List.map_cons, List.map_nil]); first | done | rfl | (simp only [List.length_drop, List.length_take]; rfl)) ?_; (with_reducible refine (ops_Bin.calls kj8 0 0 x0_4 x1_8 a2_0 a2_1 a3_0 a3_1 t600 t601 t602 _ A11.out).mono ?_); rintro e w18 ⟨rfl, hb⟩; refine ⟨_, rfl, ?_⟩; have n0_ := Aside0.mk (kM (g := gb598) (o := .cells #[.int .i64 a2_0, .int .i64 a2_1] 23 (0, 0)) (by (with_reducible repeat (first | refine kE ?_ _ | refine kH ?_ | refine kF ?_ _)); exact BK598.out) hb); have n1_ := Aside0.mk (kM (g := gb599) (o := .cells #[.int .i64 a3_0, .int .i64 a3_1] 23 (0, 0)) (by (with_reducible repeat (first | refine kE ?_ _ | refine kH ?_ | refine kF ?_ _)); exact BK599.out) hb); have n2_ := Aside0.mk (kJ (by repeat (first | (with_reducible first | exact HB.out | apply kB | apply kA | apply kC | refine kD ?_ GE598.out | refine kD ?_ GE599.out) | exact HB.out)) hb); clear BK598; clear BK599; clear HB; have BK598 := n0_; have BK599 := n1_; have HB := n2_; clear n0_ n1_ n2_; (try clear hb); (try clear hb2); (try clear hk); (try clear hi)) | ((with_reducible refine gate_dst (N := 10) rfl ?_); refine kO ?hg (N := 10) ?hd (cs := #[.int .i64 0, .int .i64 0]) (t := 23) ?hr ?_; (case hd => rfl); (case hg => rfl); (case hr => first | (go_simp; done) | (go_simp; rfl)); intro gb603 hg w19 hbox hb; have n0_ := Aside0.mk (kM (g := gb598) (o := .cells #[.int .i64 a2_0, .int .i64 a2_1] 23 (0, 0)) (by (with_reducible repeat (first | refine kE ?_ _ | refine kH ?_ | refine kF ?_ _)); exact BK598.out) hb); have n1_ := Aside0.mk (kM (g := gb599) (o := .cells #[.int .i64 a3_0, .int .i64 a3_1] 23 (0, 0)) (by (with_reducible repeat (first | refine kE ?_ _ | refine kH ?_ | refine kF ?_ _)); exact BK599.out) hb); have n2_ := Aside0.mk (kJ (by repeat (first | (with_reducible first | exact HB.out | apply kB | apply kA | apply kC | refine kD ?_ GE598.out | refine kD ?_ GE599.out) | exact HB.out)) hb); have n3_ := Aside0.mk (hbox); have n4_ := Aside0.mk ((by rw [hg]; exact (kL (by repeat (first | (with_reducible first | exact HB.out | apply kB | apply kA | apply kC | refine kD ?_ GE598.out | refine kD ?_ GE599.out) | exact HB.out))) : w.heap.size ≤ gb603)); have n5_ := Aside0.mk ((by rw [hg]; exact (kL (by repeat (first | (with_reducible first | exact HB.out | apply kB | apply kA | apply kC | refine kD ?_ GE598.out | refine kD ?_ GE599.out) | exact HB.out))) : w.heap.size ≤ gb603)); have n6_ := Aside0.mk ((by rw [hg]; exact Nat.ne_of_lt (blk_lt (g := gb598) (o := .cells #[.int .i64 a2_0, .int .i64 a2_1] 23 (0, 0)) (by (with_reducible repeat (first | refine kE ?_ _ | refine kH ?_ | refine kF ?_ _)); exact BK598.out)) : gb598 ≠ gb603)); have n7_ := Aside0.mk ((by rw [hg]; exact Nat.ne_of_gt (blk_lt (g := gb598) (o := .cells #[.int .i64 a2_0, .int .i64 a2_1] 23 (0, 0)) (by (with_reducible repeat (first | refine kE ?_ _ | refine kH ?_ | refine kF ?_ _)); exact BK598.out)) : gb603 ≠ gb598)); have n8_ := Aside0.mk ((by rw [hg]; exact Nat.ne_of_lt (blk_lt (g := gb599) (o := .cells #[.int .i64 a3_0, .int .i64 a3_1] 23 (0, 0)) (by (with_reducible repeat (first | refine kE ?_ _ | refine kH ?_ | refine kF ?_ _)); exact BK599.out)) : gb599 ≠ gb603)); have n9_ := Aside0.mk ((by rw [hg]; exact Nat.ne_of_gt (blk_lt (g := gb599) (o := .cells #[.int .i64 a3_0, .int .i64 a3_1] 23 (0, 0)) (by (with_reducible repeat (first | refine kE ?_ _ | refine kH ?_ | refine kF ?_ _)); exact BK599.out)) : gb603 ≠ gb599)); clear BK598; clear BK599; clear HB; have BK598 := n0_; have BK599 := n1_; have HB := n2_; have BK603 := n3_; have GW603 := n4_; have GE603 := n5_; have NB598_603 := n6_; have NB603_598 := n7_; have NB599_603 := n8_; have NB603_599 := n9_; clear n0_ n1_ n2_ n3_ n4_ n5_ n6_ n7_ n8_ n9_; clear hb hbox hg; have hnb20 := NB603_598.out; have hnc20 := NB598_603.out; have hnb21 := NB603_599.out; have hnc21 := NB599_603.out; have hcz22_0 : w19.cell? ⟨gb603, 0, none⟩ = some (.int .i64 0) := (kI BK603.out 0).trans rfl; have hcz22_1 : w19.cell? ⟨gb603, 1, none⟩ = some (.int .i64 0) := (kI BK603.out 1).trans rfl; have hfz22_0 := kG BK603.out 0; have hfz22_1 := kG BK603.out 1) | (go_at_call 10; (with_reducible refine (computuslaw20_known.calls  t604 _ A14.out HRT.out).mono ?_); rintro e w23 ⟨rfl, hb⟩; have n0_ := Aside0.mk (kM (g := gb598) (o := .cells #[.int .i64 a2_0, .int .i64 a2_1] 23 (0, 0)) (by (with_reducible repeat (first | refine kE ?_ _ | refine kH ?_ | refine kF ?_ _)); refine blk_far ?_ NB598_603.out _; (with_reducible repeat (first | refine kE ?_ _ | refine kH ?_ | refine kF ?_ _)); refine blk_far ?_ NB598_603.out _; (with_reducible repeat (first | refine kE ?_ _ | refine kH ?_ | refine kF ?_ _)); exact BK598.out) hb); have n1_ := Aside0.mk (kM (g := gb599) (o := .cells #[.int .i64 a3_0, .int .i64 a3_1] 23 (0, 0)) (by (with_reducible repeat (first | refine kE ?_ _ | refine kH ?_ | refine kF ?_ _)); refine blk_far ?_ NB599_603.out _; (with_reducible repeat (first | refine kE ?_ _ | refine kH ?_ | refine kF ?_ _)); refine blk_far ?_ NB599_603.out _; (with_reducible repeat (first | refine kE ?_ _ | refine kH ?_ | refine kF ?_ _)); exact BK599.out) hb); have n2_ := Aside0.mk (kM (g := gb603) (o := .cells #[.int .i64 t600, .int .i64 t601] 23 (0, 0)) (by (with_reducible repeat (first | refine kE ?_ _ | refine kH ?_ | refine kF ?_ _)); refine blk_put (cs := #[.int .i64 t600, .int .i64 0]) ?_ 1 _ rfl; (with_reducible repeat (first | refine kE ?_ _ | refine kH ?_ | refine kF ?_ _)); refine blk_put (cs := #[.int .i64 0, .int .i64 0]) ?_ 0 _ rfl; (with_reducible repeat (first | refine kE ?_ _ | refine kH ?_ | refine kF ?_ _)); exact BK603.out) hb); have n3_ := Aside0.mk (kJ (by repeat (first | (with_reducible first | exact HB.out | apply kB | apply kA | apply kC | refine kD ?_ GE598.out | refine kD ?_ GE599.out | refine kD ?_ GE603.out) | exact HB.out)) hb); clear BK598; clear BK599; clear BK603; clear HB; have BK598 := n0_; have BK599 := n1_; have BK603 := n2_; have HB := n3_; clear n0_ n1_ n2_ n3_; (try clear hb); (try clear hb2); (try clear hk); (try clear hi)))
              go_ret
              exact ⟨by first | rfl | (simp [errW_none, errW_some] <;> rfl) | (simp [*, errW_none, errW_some] <;> rfl), by repeat (first | (with_reducible first | exact HB.out | apply kB | apply kA | apply kC | refine kD ?_ GE598.out | refine kD ?_ GE599.out | refine kD ?_ GE603.out) | exact HB.out)⟩
          · rw [if_neg c12] at H
            have c12b0 : ((wrap64 ((wrap64 (x0_4 * 86400000000)) + x1_8)) == 0) = false := beq_eq_false_iff_ne.mpr c12
            have c12b1 : ((wrap64 ((wrap64 (x0_4 * 86400000000)) + x1_8)) != 0) = true := bne_iff_ne.mpr c12
            have HC24 := Aside0.mk H
            clear H
            have hnb25 := NB598_599.out
            have hnc25 := NB599_598.out
            have hcz26_0 : wc.cell? ⟨gb598, 0, none⟩ = some (.int .i64 a2_0) := (kI BK598.out 0).trans rfl
            have hcz26_1 : wc.cell? ⟨gb598, 1, none⟩ = some (.int .i64 a2_1) := (kI BK598.out 1).trans rfl
            have hfz26_0 := kG BK598.out 0
            have hfz26_1 := kG BK598.out 1
            have hcz27_0 : wc.cell? ⟨gb599, 0, none⟩ = some (.int .i64 a3_0) := (kI BK599.out 0).trans rfl
            have hcz27_1 : wc.cell? ⟨gb599, 1, none⟩ = some (.int .i64 a3_1) := (kI BK599.out 1).trans rfl
            have hfz27_0 := kG BK599.out 0
            have hfz27_1 := kG BK599.out 1
            go_upto_region 11 with (first | ((with_reducible refine kK (f := 12) rfl ?_); refine kN (some 36) rfl rfl Tryz.func12 (by kernel_rfl) rfl #[.agg #[.int .i64 0, .int .i64 0, .int .i64 x0_4, .int .i64 x1_8], .agg #[.int .i64 a2_0, .int .i64 a2_1], .agg #[.int .i64 a3_0, .int .i64 a3_1]] rfl (by (try simp only [List.map_toArray, List.map_cons, List.map_nil]); first | done | rfl | (simp only [List.length_drop, List.length_take]; rfl)) ?_; (with_reducible refine (ops_Bin.calls kj8 0 0 x0_4 x1_8 a2_0 a2_1 a3_0 a3_1 t600 t601 t602 _ A11.out).mono ?_); rintro e w28 ⟨rfl, hb⟩; refine ⟨_, rfl, ?_⟩; have n0_ := Aside0.mk (kM (g := gb598) (o := .cells #[.int .i64 a2_0, .int .i64 a2_1] 23 (0, 0)) (by (with_reducible repeat (first | refine kE ?_ _ | refine kH ?_ | refine kF ?_ _)); exact BK598.out) hb); have n1_ := Aside0.mk (kM (g := gb599) (o := .cells #[.int .i64 a3_0, .int .i64 a3_1] 23 (0, 0)) (by (with_reducible repeat (first | refine kE ?_ _ | refine kH ?_ | refine kF ?_ _)); exact BK599.out) hb); have n2_ := Aside0.mk (kJ (by repeat (first | (with_reducible first | exact HB.out | apply kB | apply kA | apply kC | refine kD ?_ GE598.out | refine kD ?_ GE599.out) | exact HB.out)) hb); clear BK598; clear BK599; clear HB; have BK598 := n0_; have BK599 := n1_; have HB := n2_; clear n0_ n1_ n2_; (try clear hb); (try clear hb2); (try clear hk); (try clear hi)) | ((with_reducible refine gate_dst (N := 10) rfl ?_); refine kO ?hg (N := 10) ?hd (cs := #[.int .i64 0, .int .i64 0]) (t := 23) ?hr ?_; (case hd => rfl); (case hg => rfl); (case hr => first | (go_simp; done) | (go_simp; rfl)); intro gb603 hg w29 hbox hb; have n0_ := Aside0.mk (kM (g := gb598) (o := .cells #[.int .i64 a2_0, .int .i64 a2_1] 23 (0, 0)) (by (with_reducible repeat (first | refine kE ?_ _ | refine kH ?_ | refine kF ?_ _)); exact BK598.out) hb); have n1_ := Aside0.mk (kM (g := gb599) (o := .cells #[.int .i64 a3_0, .int .i64 a3_1] 23 (0, 0)) (by (with_reducible repeat (first | refine kE ?_ _ | refine kH ?_ | refine kF ?_ _)); exact BK599.out) hb); have n2_ := Aside0.mk (kJ (by repeat (first | (with_reducible first | exact HB.out | apply kB | apply kA | apply kC | refine kD ?_ GE598.out | refine kD ?_ GE599.out) | exact HB.out)) hb); have n3_ := Aside0.mk (hbox); have n4_ := Aside0.mk ((by rw [hg]; exact (kL (by repeat (first | (with_reducible first | exact HB.out | apply kB | apply kA | apply kC | refine kD ?_ GE598.out | refine kD ?_ GE599.out) | exact HB.out))) : w.heap.size ≤ gb603)); have n5_ := Aside0.mk ((by rw [hg]; exact (kL (by repeat (first | (with_reducible first | exact HB.out | apply kB | apply kA | apply kC | refine kD ?_ GE598.out | refine kD ?_ GE599.out) | exact HB.out))) : w.heap.size ≤ gb603)); have n6_ := Aside0.mk ((by rw [hg]; exact Nat.ne_of_lt (blk_lt (g := gb598) (o := .cells #[.int .i64 a2_0, .int .i64 a2_1] 23 (0, 0)) (by (with_reducible repeat (first | refine kE ?_ _ | refine kH ?_ | refine kF ?_ _)); exact BK598.out)) : gb598 ≠ gb603)); have n7_ := Aside0.mk ((by rw [hg]; exact Nat.ne_of_gt (blk_lt (g := gb598) (o := .cells #[.int .i64 a2_0, .int .i64 a2_1] 23 (0, 0)) (by (with_reducible repeat (first | refine kE ?_ _ | refine kH ?_ | refine kF ?_ _)); exact BK598.out)) : gb603 ≠ gb598)); have n8_ := Aside0.mk ((by rw [hg]; exact Nat.ne_of_lt (blk_lt (g := gb599) (o := .cells #[.int .i64 a3_0, .int .i64 a3_1] 23 (0, 0)) (by (with_reducible repeat (first | refine kE ?_ _ | refine kH ?_ | refine kF ?_ _)); exact BK599.out)) : gb599 ≠ gb603)); have n9_ := Aside0.mk ((by rw [hg]; exact Nat.ne_of_gt (blk_lt (g := gb599) (o := .cells #[.int .i64 a3_0, .int .i64 a3_1] 23 (0, 0)) (by (with_reducible repeat (first | refine kE ?_ _ | refine kH ?_ | refine kF ?_ _)); exact BK599.out)) : gb603 ≠ gb599)); clear BK598; clear BK599; clear HB; have BK598 := n0_; have BK599 := n1_; have HB := n2_; have BK603 := n3_; have GW603 := n4_; have GE603 := n5_; have NB598_603 := n6_; have NB603_598 := n7_; have NB599_603 := n8_; have NB603_599 := n9_; clear n0_ n1_ n2_ n3_ n4_ n5_ n6_ n7_ n8_ n9_; clear hb hbox hg; have hnb30 := NB603_598.out; have hnc30 := NB598_603.out; have hnb31 := NB603_599.out; have hnc31 := NB599_603.out; have hcz32_0 : w29.cell? ⟨gb603, 0, none⟩ = some (.int .i64 0) := (kI BK603.out 0).trans rfl; have hcz32_1 : w29.cell? ⟨gb603, 1, none⟩ = some (.int .i64 0) := (kI BK603.out 1).trans rfl; have hfz32_0 := kG BK603.out 0; have hfz32_1 := kG BK603.out 1))
            (try simp only [Act.put, List.setIfInBounds_toArray, List.set_cons_zero, List.set_cons_succ])
            go_cut [52] (fun v52 wc => ∃ (kq : Nat) (x52_23 : Bool), v52 = .bool x52_23 ∧ Aside0 (computuslaw20_OpsWhole.j2 kq (wrap64 ((wrap64 (x0_4 * 86400000000)) + x1_8)) x52_23 a2_0 a2_1 a3_0 a3_1 t600 t601 = some r) ∧ Aside0 (kq ≤ kj8) ∧ Aside0 (wc.heap[gb598]? = some (.cells #[.int .i64 a2_0, .int .i64 a2_1] 23 (0, 0))) ∧ Aside0 (wc.heap[gb599]? = some (.cells #[.int .i64 a3_0, .int .i64 a3_1] 23 (0, 0))) ∧ Aside0 (wc.heap[gb603]? = some (.cells #[.int .i64 t600, .int .i64 t601] 23 (0, 0))) ∧ Aside0 (Below w.heap.size w wc))
            case first =>
              have H := HC24.out
              clear HC24
              by_cases c33 : t602 = 0
              · rw [if_pos c33] at H
                have c33b0 : (t602 == 0) = true := beq_iff_eq.mpr c33
                have c33b1 : (t602 != 0) = false := bne_eq_false_iff_eq.mpr c33
                clear c33
                (first | rw [c33b0] | (simp only [i64_w, i32_w]; rw [c33b0]) | skip)
                have H' := Aside0.mk H
                clear H
                have hnb34 := NB598_599.out
                have hnc34 := NB599_598.out
                have hnb35 := NB598_603.out
                have hnc35 := NB603_598.out
                have hcz36_0 : w29.cell? ⟨gb598, 0, none⟩ = some (.int .i64 a2_0) := (kI BK598.out 0).trans rfl
                have hcz36_1 : w29.cell? ⟨gb598, 1, none⟩ = some (.int .i64 a2_1) := (kI BK598.out 1).trans rfl
                have hfz36_0 := kG BK598.out 0
                have hfz36_1 := kG BK598.out 1
                go_wp2
                go_meet
                case rel => exact ⟨_, ((a2_0 != 0)), (by first | rfl | (simp; done) | (simp [*]; done)), H', ⟨by have := HJ4.out; have := HJ8.out; first | omega | exact Nat.le_refl _⟩, ⟨by (with_reducible repeat (first | refine kE ?_ _ | refine kH ?_ | refine kF ?_ _)); refine blk_far ?_ NB598_603.out _; (with_reducible repeat (first | refine kE ?_ _ | refine kH ?_ | refine kF ?_ _)); refine blk_far ?_ NB598_603.out _; (with_reducible repeat (first | refine kE ?_ _ | refine kH ?_ | refine kF ?_ _)); exact BK598.out⟩, ⟨by (with_reducible repeat (first | refine kE ?_ _ | refine kH ?_ | refine kF ?_ _)); refine blk_far ?_ NB599_603.out _; (with_reducible repeat (first | refine kE ?_ _ | refine kH ?_ | refine kF ?_ _)); refine blk_far ?_ NB599_603.out _; (with_reducible repeat (first | refine kE ?_ _ | refine kH ?_ | refine kF ?_ _)); exact BK599.out⟩, ⟨by (with_reducible repeat (first | refine kE ?_ _ | refine kH ?_ | refine kF ?_ _)); refine blk_put (cs := #[.int .i64 t600, .int .i64 0]) ?_ 1 _ rfl; (with_reducible repeat (first | refine kE ?_ _ | refine kH ?_ | refine kF ?_ _)); refine blk_put (cs := #[.int .i64 0, .int .i64 0]) ?_ 0 _ rfl; (with_reducible repeat (first | refine kE ?_ _ | refine kH ?_ | refine kF ?_ _)); exact BK603.out⟩, ⟨by repeat (first | (with_reducible first | exact HB.out | apply kB | apply kA | apply kC | refine kD ?_ GE598.out | refine kD ?_ GE599.out | refine kD ?_ GE603.out) | exact HB.out)⟩⟩
              · rw [if_neg c33] at H
                have c33b0 : (t602 == 0) = false := beq_eq_false_iff_ne.mpr c33
                have c33b1 : (t602 != 0) = true := bne_iff_ne.mpr c33
                (first | rw [c33b0] | (simp only [i64_w, i32_w]; rw [c33b0]) | skip)
                have H' := Aside0.mk H
                clear H
                go_wp2
                go_meet
                case rel => exact ⟨_, (true), (by first | rfl | (simp; done) | (simp [*]; done)), H', ⟨by have := HJ4.out; have := HJ8.out; first | omega | exact Nat.le_refl _⟩, ⟨by (with_reducible repeat (first | refine kE ?_ _ | refine kH ?_ | refine kF ?_ _)); refine blk_far ?_ NB598_603.out _; (with_reducible repeat (first | refine kE ?_ _ | refine kH ?_ | refine kF ?_ _)); refine blk_far ?_ NB598_603.out _; (with_reducible repeat (first | refine kE ?_ _ | refine kH ?_ | refine kF ?_ _)); exact BK598.out⟩, ⟨by (with_reducible repeat (first | refine kE ?_ _ | refine kH ?_ | refine kF ?_ _)); refine blk_far ?_ NB599_603.out _; (with_reducible repeat (first | refine kE ?_ _ | refine kH ?_ | refine kF ?_ _)); refine blk_far ?_ NB599_603.out _; (with_reducible repeat (first | refine kE ?_ _ | refine kH ?_ | refine kF ?_ _)); exact BK599.out⟩, ⟨by (with_reducible repeat (first | refine kE ?_ _ | refine kH ?_ | refine kF ?_ _)); refine blk_put (cs := #[.int .i64 t600, .int .i64 0]) ?_ 1 _ rfl; (with_reducible repeat (first | refine kE ?_ _ | refine kH ?_ | refine kF ?_ _)); refine blk_put (cs := #[.int .i64 0, .int .i64 0]) ?_ 0 _ rfl; (with_reducible repeat (first | refine kE ?_ _ | refine kH ?_ | refine kF ?_ _)); exact BK603.out⟩, ⟨by repeat (first | (with_reducible first | exact HB.out | apply kB | apply kA | apply kC | refine kD ?_ GE598.out | refine kD ?_ GE599.out | refine kD ?_ GE603.out) | exact HB.out)⟩⟩
            case rest =>
              clear HC24
              try clear c1
              try clear c2
              try clear p2
              try clear c3
              try clear c4
              try clear p6
              try clear c8
              try clear c8b0
              try clear c10
              try clear c10b0
              try clear c12
              try clear c12b0
              try clear c12b1
              try clear c13
              try clear c13b0
              try clear c13b1
              try clear c15
              try clear c20
              try clear c21
              try clear c25
              try clear c30
              try clear c31
              try clear c33
              try clear c33b0
              try clear c33b1
              try clear c34
              try clear c35
              try clear hcz16_0
              try clear hcz16_1
              try clear hcz17_0
              try clear hcz17_1
              try clear hcz22_0
              try clear hcz22_1
              try clear hcz26_0
              try clear hcz26_1
              try clear hcz27_0
              try clear hcz27_1
              try clear hcz32_0
              try clear hcz32_1
              try clear hcz36_0
              try clear hcz36_1
              try clear hfz16_0
              try clear hfz16_1
              try clear hfz17_0
              try clear hfz17_1
              try clear hfz22_0
              try clear hfz22_1
              try clear hfz26_0
              try clear hfz26_1
              try clear hfz27_0
              try clear hfz27_1
              try clear hfz32_0
              try clear hfz32_1
              try clear hfz36_0
              try clear hfz36_1
              try clear p2
              try clear p6
              obtain ⟨kq, x52_23, rfl, HA, HJ23, BK598, BK599, BK603, HB⟩ := hcut
              cases kq with
              | zero => exact absurd HA.out (by simp [computuslaw20_OpsWhole.j2])
              | succ kj23 =>
                have H := HA.out
                clear HA
                simp only [computuslaw20_OpsWhole.j2] at H
                by_cases c37 : x52_23 = true
                · subst c37
                  have H1 : ((computuslaw20_known.f).bind fun t605 => (some t605)) = some r := by rw [if_pos rfl] at H; exact H
                  clear H
                  have H := H1
                  clear H1
                  replace H := Option.bind_eq_some_iff.mp H
                  obtain ⟨t605, A380, H⟩ := H
                  replace H : (some t605) = some r := H
                  have A38 := Aside0.mk A380
                  clear A380
                  obtain rfl := Option.some.inj H
                  go_wp2_with (first | ((with_reducible refine kK (f := 10) rfl ?_); refine kN (some 53) rfl rfl Tryz.func10 (by kernel_rfl) rfl #[] rfl (by (try simp only [List.map_toArray, List.map_cons, List.map_nil]); first | done | rfl | (simp only [List.length_drop, List.length_take]; rfl)) ?_; (with_reducible refine (computuslaw20_known.calls  t605 _ A38.out HRT.out).mono ?_); rintro e w39 ⟨rfl, hb⟩; refine ⟨_, rfl, ?_⟩; have n0_ := Aside0.mk (kM (g := gb598) (o := .cells #[.int .i64 a2_0, .int .i64 a2_1] 23 (0, 0)) (by (with_reducible repeat (first | refine kE ?_ _ | refine kH ?_ | refine kF ?_ _)); exact BK598.out) hb); have n1_ := Aside0.mk (kM (g := gb599) (o := .cells #[.int .i64 a3_0, .int .i64 a3_1] 23 (0, 0)) (by (with_reducible repeat (first | refine kE ?_ _ | refine kH ?_ | refine kF ?_ _)); exact BK599.out) hb); have n2_ := Aside0.mk (kM (g := gb603) (o := .cells #[.int .i64 t600, .int .i64 t601] 23 (0, 0)) (by (with_reducible repeat (first | refine kE ?_ _ | refine kH ?_ | refine kF ?_ _)); exact BK603.out) hb); have n3_ := Aside0.mk (kJ (by repeat (first | (with_reducible first | exact HB.out | apply kB | apply kA | apply kC | refine kD ?_ GE598.out | refine kD ?_ GE599.out | refine kD ?_ GE603.out) | exact HB.out)) hb); clear BK598; clear BK599; clear BK603; clear HB; have BK598 := n0_; have BK599 := n1_; have BK603 := n2_; have HB := n3_; clear n0_ n1_ n2_ n3_; (try clear hb); (try clear hb2); (try clear hk); (try clear hi)))
                  go_ret
                  exact ⟨by first | rfl | (simp [errW_none, errW_some] <;> rfl) | (simp [*, errW_none, errW_some] <;> rfl), by repeat (first | (with_reducible first | exact HB.out | apply kB | apply kA | apply kC | refine kD ?_ GE598.out | refine kD ?_ GE599.out | refine kD ?_ GE603.out) | exact HB.out)⟩
                · replace c37 := Bool.eq_false_iff.mpr c37
                  subst c37
                  have H1 : (if (wrap64 ((wrap64 (x0_4 * 86400000000)) + x1_8)) = 0 then (none) else (if (Int.tmod t601 (wrap64 ((wrap64 (x0_4 * 86400000000)) + x1_8))) < 0 then (if (Int.tmod a3_1 (wrap64 ((wrap64 (x0_4 * 86400000000)) + x1_8))) < 0 then (if t601 ≤ a2_1 then (if (wrap64 (a2_1 - t601)) < (wrap64 ((wrap64 (x0_4 * 86400000000)) + x1_8)) then (if (wrap64 ((Int.tmod t601 (wrap64 ((wrap64 (x0_4 * 86400000000)) + x1_8))) + (wrap64 ((wrap64 (x0_4 * 86400000000)) + x1_8)))) = (wrap64 ((Int.tmod a3_1 (wrap64 ((wrap64 (x0_4 * 86400000000)) + x1_8))) + (wrap64 ((wrap64 (x0_4 * 86400000000)) + x1_8)))) then ((computuslaw20_known.f).bind fun t606 => (some t606)) else (some false)) else (some false)) else (some false)) else (if t601 ≤ a2_1 then (if (wrap64 (a2_1 - t601)) < (wrap64 ((wrap64 (x0_4 * 86400000000)) + x1_8)) then (if (wrap64 ((Int.tmod t601 (wrap64 ((wrap64 (x0_4 * 86400000000)) + x1_8))) + (wrap64 ((wrap64 (x0_4 * 86400000000)) + x1_8)))) = (Int.tmod a3_1 (wrap64 ((wrap64 (x0_4 * 86400000000)) + x1_8))) then ((computuslaw20_known.f).bind fun t607 => (some t607)) else (some false)) else (some false)) else (some false))) else (if (Int.tmod a3_1 (wrap64 ((wrap64 (x0_4 * 86400000000)) + x1_8))) < 0 then (if t601 ≤ a2_1 then (if (wrap64 (a2_1 - t601)) < (wrap64 ((wrap64 (x0_4 * 86400000000)) + x1_8)) then (if (Int.tmod t601 (wrap64 ((wrap64 (x0_4 * 86400000000)) + x1_8))) = (wrap64 ((Int.tmod a3_1 (wrap64 ((wrap64 (x0_4 * 86400000000)) + x1_8))) + (wrap64 ((wrap64 (x0_4 * 86400000000)) + x1_8)))) then ((computuslaw20_known.f).bind fun t608 => (some t608)) else (some false)) else (some false)) else (some false)) else (if t601 ≤ a2_1 then (if (wrap64 (a2_1 - t601)) < (wrap64 ((wrap64 (x0_4 * 86400000000)) + x1_8)) then (if (Int.tmod t601 (wrap64 ((wrap64 (x0_4 * 86400000000)) + x1_8))) = (Int.tmod a3_1 (wrap64 ((wrap64 (x0_4 * 86400000000)) + x1_8))) then ((computuslaw20_known.f).bind fun t609 => (some t609)) else (some false)) else (some false)) else (some false))))) = some r := by rw [if_neg (show ¬ (false = true) by decide)] at H; exact H
                  clear H
                  have H := H1
                  clear H1
                  by_cases c40 : (wrap64 ((wrap64 (x0_4 * 86400000000)) + x1_8)) = 0
                  · rw [if_pos c40] at H
                    exact absurd H (by simp)
                  · rw [if_neg c40] at H
                    have c40b0 : ((wrap64 ((wrap64 (x0_4 * 86400000000)) + x1_8)) == 0) = false := beq_eq_false_iff_ne.mpr c40
                    have c40b1 : ((wrap64 ((wrap64 (x0_4 * 86400000000)) + x1_8)) != 0) = true := bne_iff_ne.mpr c40
                    by_cases c41 : (Int.tmod t601 (wrap64 ((wrap64 (x0_4 * 86400000000)) + x1_8))) < 0
                    · rw [if_pos c41] at H
                      have c41b0 : decide ((Int.tmod t601 (wrap64 ((wrap64 (x0_4 * 86400000000)) + x1_8))) < 0) = true := decide_eq_true c41
                      clear c41
                      by_cases c42 : (Int.tmod a3_1 (wrap64 ((wrap64 (x0_4 * 86400000000)) + x1_8))) < 0
                      · rw [if_pos c42] at H
                        have c42b0 : decide ((Int.tmod a3_1 (wrap64 ((wrap64 (x0_4 * 86400000000)) + x1_8))) < 0) = true := decide_eq_true c42
                        clear c42
                        by_cases c43 : t601 ≤ a2_1
                        · rw [if_pos c43] at H
                          have c43b0 : decide (t601 ≤ a2_1) = true := decide_eq_true c43
                          clear c43
                          by_cases c44 : (wrap64 (a2_1 - t601)) < (wrap64 ((wrap64 (x0_4 * 86400000000)) + x1_8))
                          · rw [if_pos c44] at H
                            have c44b0 : decide ((wrap64 (a2_1 - t601)) < (wrap64 ((wrap64 (x0_4 * 86400000000)) + x1_8))) = true := decide_eq_true c44
                            clear c44
                            by_cases c45 : (wrap64 ((Int.tmod t601 (wrap64 ((wrap64 (x0_4 * 86400000000)) + x1_8))) + (wrap64 ((wrap64 (x0_4 * 86400000000)) + x1_8)))) = (wrap64 ((Int.tmod a3_1 (wrap64 ((wrap64 (x0_4 * 86400000000)) + x1_8))) + (wrap64 ((wrap64 (x0_4 * 86400000000)) + x1_8))))
                            · rw [if_pos c45] at H
                              have c45b0 : ((wrap64 ((Int.tmod t601 (wrap64 ((wrap64 (x0_4 * 86400000000)) + x1_8))) + (wrap64 ((wrap64 (x0_4 * 86400000000)) + x1_8)))) == (wrap64 ((Int.tmod a3_1 (wrap64 ((wrap64 (x0_4 * 86400000000)) + x1_8))) + (wrap64 ((wrap64 (x0_4 * 86400000000)) + x1_8))))) = true := beq_iff_eq.mpr c45
                              have c45b1 : ((wrap64 ((Int.tmod t601 (wrap64 ((wrap64 (x0_4 * 86400000000)) + x1_8))) + (wrap64 ((wrap64 (x0_4 * 86400000000)) + x1_8)))) != (wrap64 ((Int.tmod a3_1 (wrap64 ((wrap64 (x0_4 * 86400000000)) + x1_8))) + (wrap64 ((wrap64 (x0_4 * 86400000000)) + x1_8))))) = false := bne_eq_false_iff_eq.mpr c45
                              clear c45
                              replace H := Option.bind_eq_some_iff.mp H
                              obtain ⟨t606, A460, H⟩ := H
                              replace H : (some t606) = some r := H
                              have A46 := Aside0.mk A460
                              clear A460
                              obtain rfl := Option.some.inj H
                              have hnb47 := NB603_598.out
                              have hnc47 := NB598_603.out
                              have hnb48 := NB603_599.out
                              have hnc48 := NB599_603.out
                              have hcz49_0 : wc.cell? ⟨gb603, 0, none⟩ = some (.int .i64 t600) := (kI BK603.out 0).trans rfl
                              have hcz49_1 : wc.cell? ⟨gb603, 1, none⟩ = some (.int .i64 t601) := (kI BK603.out 1).trans rfl
                              have hfz49_0 := kG BK603.out 0
                              have hfz49_1 := kG BK603.out 1
                              have hnb50 := NB599_598.out
                              have hnc50 := NB598_599.out
                              have hcz51_0 : wc.cell? ⟨gb599, 0, none⟩ = some (.int .i64 a3_0) := (kI BK599.out 0).trans rfl
                              have hcz51_1 : wc.cell? ⟨gb599, 1, none⟩ = some (.int .i64 a3_1) := (kI BK599.out 1).trans rfl
                              have hfz51_0 := kG BK599.out 0
                              have hfz51_1 := kG BK599.out 1
                              have hcz52_0 : wc.cell? ⟨gb598, 0, none⟩ = some (.int .i64 a2_0) := (kI BK598.out 0).trans rfl
                              have hcz52_1 : wc.cell? ⟨gb598, 1, none⟩ = some (.int .i64 a2_1) := (kI BK598.out 1).trans rfl
                              have hfz52_0 := kG BK598.out 0
                              have hfz52_1 := kG BK598.out 1
                              go_wp2_with (first | (go_at_call 10; (with_reducible refine (computuslaw20_known.calls  t606 _ A46.out HRT.out).mono ?_); rintro e w53 ⟨rfl, hb⟩; have n0_ := Aside0.mk (kM (g := gb598) (o := .cells #[.int .i64 a2_0, .int .i64 a2_1] 23 (0, 0)) (by (with_reducible repeat (first | refine kE ?_ _ | refine kH ?_ | refine kF ?_ _)); exact BK598.out) hb); have n1_ := Aside0.mk (kM (g := gb599) (o := .cells #[.int .i64 a3_0, .int .i64 a3_1] 23 (0, 0)) (by (with_reducible repeat (first | refine kE ?_ _ | refine kH ?_ | refine kF ?_ _)); exact BK599.out) hb); have n2_ := Aside0.mk (kM (g := gb603) (o := .cells #[.int .i64 t600, .int .i64 t601] 23 (0, 0)) (by (with_reducible repeat (first | refine kE ?_ _ | refine kH ?_ | refine kF ?_ _)); exact BK603.out) hb); have n3_ := Aside0.mk (kJ (by repeat (first | (with_reducible first | exact HB.out | apply kB | apply kA | apply kC | refine kD ?_ GE598.out | refine kD ?_ GE599.out | refine kD ?_ GE603.out) | exact HB.out)) hb); clear BK598; clear BK599; clear BK603; clear HB; have BK598 := n0_; have BK599 := n1_; have BK603 := n2_; have HB := n3_; clear n0_ n1_ n2_ n3_; (try clear hb); (try clear hb2); (try clear hk); (try clear hi)))
                              go_ret
                              exact ⟨by first | rfl | (simp [errW_none, errW_some] <;> rfl) | (simp [*, errW_none, errW_some] <;> rfl), by repeat (first | (with_reducible first | exact HB.out | apply kB | apply kA | apply kC | refine kD ?_ GE598.out | refine kD ?_ GE599.out | refine kD ?_ GE603.out) | exact HB.out)⟩
                            · rw [if_neg c45] at H
                              have c45b0 : ((wrap64 ((Int.tmod t601 (wrap64 ((wrap64 (x0_4 * 86400000000)) + x1_8))) + (wrap64 ((wrap64 (x0_4 * 86400000000)) + x1_8)))) == (wrap64 ((Int.tmod a3_1 (wrap64 ((wrap64 (x0_4 * 86400000000)) + x1_8))) + (wrap64 ((wrap64 (x0_4 * 86400000000)) + x1_8))))) = false := beq_eq_false_iff_ne.mpr c45
                              have c45b1 : ((wrap64 ((Int.tmod t601 (wrap64 ((wrap64 (x0_4 * 86400000000)) + x1_8))) + (wrap64 ((wrap64 (x0_4 * 86400000000)) + x1_8)))) != (wrap64 ((Int.tmod a3_1 (wrap64 ((wrap64 (x0_4 * 86400000000)) + x1_8))) + (wrap64 ((wrap64 (x0_4 * 86400000000)) + x1_8))))) = true := bne_iff_ne.mpr c45
                              exact absurd (Option.some.inj H) (by rw [HRT.out]; decide)
                          · rw [if_neg c44] at H
                            have c44b0 : decide ((wrap64 (a2_1 - t601)) < (wrap64 ((wrap64 (x0_4 * 86400000000)) + x1_8))) = false := decide_eq_false c44
                            clear c44
                            exact absurd (Option.some.inj H) (by rw [HRT.out]; decide)
                        · rw [if_neg c43] at H
                          have c43b0 : decide (t601 ≤ a2_1) = false := decide_eq_false c43
                          clear c43
                          exact absurd (Option.some.inj H) (by rw [HRT.out]; decide)
                      · rw [if_neg c42] at H
                        have c42b0 : decide ((Int.tmod a3_1 (wrap64 ((wrap64 (x0_4 * 86400000000)) + x1_8))) < 0) = false := decide_eq_false c42
                        clear c42
                        by_cases c54 : t601 ≤ a2_1
                        · rw [if_pos c54] at H
                          have c54b0 : decide (t601 ≤ a2_1) = true := decide_eq_true c54
                          clear c54
                          by_cases c55 : (wrap64 (a2_1 - t601)) < (wrap64 ((wrap64 (x0_4 * 86400000000)) + x1_8))
                          · rw [if_pos c55] at H
                            have c55b0 : decide ((wrap64 (a2_1 - t601)) < (wrap64 ((wrap64 (x0_4 * 86400000000)) + x1_8))) = true := decide_eq_true c55
                            clear c55
                            by_cases c56 : (wrap64 ((Int.tmod t601 (wrap64 ((wrap64 (x0_4 * 86400000000)) + x1_8))) + (wrap64 ((wrap64 (x0_4 * 86400000000)) + x1_8)))) = (Int.tmod a3_1 (wrap64 ((wrap64 (x0_4 * 86400000000)) + x1_8)))
                            · rw [if_pos c56] at H
                              have c56b0 : ((wrap64 ((Int.tmod t601 (wrap64 ((wrap64 (x0_4 * 86400000000)) + x1_8))) + (wrap64 ((wrap64 (x0_4 * 86400000000)) + x1_8)))) == (Int.tmod a3_1 (wrap64 ((wrap64 (x0_4 * 86400000000)) + x1_8)))) = true := beq_iff_eq.mpr c56
                              have c56b1 : ((wrap64 ((Int.tmod t601 (wrap64 ((wrap64 (x0_4 * 86400000000)) + x1_8))) + (wrap64 ((wrap64 (x0_4 * 86400000000)) + x1_8)))) != (Int.tmod a3_1 (wrap64 ((wrap64 (x0_4 * 86400000000)) + x1_8)))) = false := bne_eq_false_iff_eq.mpr c56
                              clear c56
                              replace H := Option.bind_eq_some_iff.mp H
                              obtain ⟨t607, A570, H⟩ := H
                              replace H : (some t607) = some r := H
                              have A57 := Aside0.mk A570
                              clear A570
                              obtain rfl := Option.some.inj H
                              have hnb58 := NB603_598.out
                              have hnc58 := NB598_603.out
                              have hnb59 := NB603_599.out
                              have hnc59 := NB599_603.out
                              have hcz60_0 : wc.cell? ⟨gb603, 0, none⟩ = some (.int .i64 t600) := (kI BK603.out 0).trans rfl
                              have hcz60_1 : wc.cell? ⟨gb603, 1, none⟩ = some (.int .i64 t601) := (kI BK603.out 1).trans rfl
                              have hfz60_0 := kG BK603.out 0
                              have hfz60_1 := kG BK603.out 1
                              have hnb61 := NB599_598.out
                              have hnc61 := NB598_599.out
                              have hcz62_0 : wc.cell? ⟨gb599, 0, none⟩ = some (.int .i64 a3_0) := (kI BK599.out 0).trans rfl
                              have hcz62_1 : wc.cell? ⟨gb599, 1, none⟩ = some (.int .i64 a3_1) := (kI BK599.out 1).trans rfl
                              have hfz62_0 := kG BK599.out 0
                              have hfz62_1 := kG BK599.out 1
                              have hcz63_0 : wc.cell? ⟨gb598, 0, none⟩ = some (.int .i64 a2_0) := (kI BK598.out 0).trans rfl
                              have hcz63_1 : wc.cell? ⟨gb598, 1, none⟩ = some (.int .i64 a2_1) := (kI BK598.out 1).trans rfl
                              have hfz63_0 := kG BK598.out 0
                              have hfz63_1 := kG BK598.out 1
                              go_wp2_with (first | (go_at_call 10; (with_reducible refine (computuslaw20_known.calls  t607 _ A57.out HRT.out).mono ?_); rintro e w64 ⟨rfl, hb⟩; have n0_ := Aside0.mk (kM (g := gb598) (o := .cells #[.int .i64 a2_0, .int .i64 a2_1] 23 (0, 0)) (by (with_reducible repeat (first | refine kE ?_ _ | refine kH ?_ | refine kF ?_ _)); exact BK598.out) hb); have n1_ := Aside0.mk (kM (g := gb599) (o := .cells #[.int .i64 a3_0, .int .i64 a3_1] 23 (0, 0)) (by (with_reducible repeat (first | refine kE ?_ _ | refine kH ?_ | refine kF ?_ _)); exact BK599.out) hb); have n2_ := Aside0.mk (kM (g := gb603) (o := .cells #[.int .i64 t600, .int .i64 t601] 23 (0, 0)) (by (with_reducible repeat (first | refine kE ?_ _ | refine kH ?_ | refine kF ?_ _)); exact BK603.out) hb); have n3_ := Aside0.mk (kJ (by repeat (first | (with_reducible first | exact HB.out | apply kB | apply kA | apply kC | refine kD ?_ GE598.out | refine kD ?_ GE599.out | refine kD ?_ GE603.out) | exact HB.out)) hb); clear BK598; clear BK599; clear BK603; clear HB; have BK598 := n0_; have BK599 := n1_; have BK603 := n2_; have HB := n3_; clear n0_ n1_ n2_ n3_; (try clear hb); (try clear hb2); (try clear hk); (try clear hi)))
                              go_ret
                              exact ⟨by first | rfl | (simp [errW_none, errW_some] <;> rfl) | (simp [*, errW_none, errW_some] <;> rfl), by repeat (first | (with_reducible first | exact HB.out | apply kB | apply kA | apply kC | refine kD ?_ GE598.out | refine kD ?_ GE599.out | refine kD ?_ GE603.out) | exact HB.out)⟩
                            · rw [if_neg c56] at H
                              have c56b0 : ((wrap64 ((Int.tmod t601 (wrap64 ((wrap64 (x0_4 * 86400000000)) + x1_8))) + (wrap64 ((wrap64 (x0_4 * 86400000000)) + x1_8)))) == (Int.tmod a3_1 (wrap64 ((wrap64 (x0_4 * 86400000000)) + x1_8)))) = false := beq_eq_false_iff_ne.mpr c56
                              have c56b1 : ((wrap64 ((Int.tmod t601 (wrap64 ((wrap64 (x0_4 * 86400000000)) + x1_8))) + (wrap64 ((wrap64 (x0_4 * 86400000000)) + x1_8)))) != (Int.tmod a3_1 (wrap64 ((wrap64 (x0_4 * 86400000000)) + x1_8)))) = true := bne_iff_ne.mpr c56
                              exact absurd (Option.some.inj H) (by rw [HRT.out]; decide)
                          · rw [if_neg c55] at H
                            have c55b0 : decide ((wrap64 (a2_1 - t601)) < (wrap64 ((wrap64 (x0_4 * 86400000000)) + x1_8))) = false := decide_eq_false c55
                            clear c55
                            exact absurd (Option.some.inj H) (by rw [HRT.out]; decide)
                        · rw [if_neg c54] at H
                          have c54b0 : decide (t601 ≤ a2_1) = false := decide_eq_false c54
                          clear c54
                          exact absurd (Option.some.inj H) (by rw [HRT.out]; decide)
                    · rw [if_neg c41] at H
                      have c41b0 : decide ((Int.tmod t601 (wrap64 ((wrap64 (x0_4 * 86400000000)) + x1_8))) < 0) = false := decide_eq_false c41
                      clear c41
                      by_cases c65 : (Int.tmod a3_1 (wrap64 ((wrap64 (x0_4 * 86400000000)) + x1_8))) < 0
                      · rw [if_pos c65] at H
                        have c65b0 : decide ((Int.tmod a3_1 (wrap64 ((wrap64 (x0_4 * 86400000000)) + x1_8))) < 0) = true := decide_eq_true c65
                        clear c65
                        by_cases c66 : t601 ≤ a2_1
                        · rw [if_pos c66] at H
                          have c66b0 : decide (t601 ≤ a2_1) = true := decide_eq_true c66
                          clear c66
                          by_cases c67 : (wrap64 (a2_1 - t601)) < (wrap64 ((wrap64 (x0_4 * 86400000000)) + x1_8))
                          · rw [if_pos c67] at H
                            have c67b0 : decide ((wrap64 (a2_1 - t601)) < (wrap64 ((wrap64 (x0_4 * 86400000000)) + x1_8))) = true := decide_eq_true c67
                            clear c67
                            by_cases c68 : (Int.tmod t601 (wrap64 ((wrap64 (x0_4 * 86400000000)) + x1_8))) = (wrap64 ((Int.tmod a3_1 (wrap64 ((wrap64 (x0_4 * 86400000000)) + x1_8))) + (wrap64 ((wrap64 (x0_4 * 86400000000)) + x1_8))))
                            · rw [if_pos c68] at H
                              have c68b0 : ((Int.tmod t601 (wrap64 ((wrap64 (x0_4 * 86400000000)) + x1_8))) == (wrap64 ((Int.tmod a3_1 (wrap64 ((wrap64 (x0_4 * 86400000000)) + x1_8))) + (wrap64 ((wrap64 (x0_4 * 86400000000)) + x1_8))))) = true := beq_iff_eq.mpr c68
                              have c68b1 : ((Int.tmod t601 (wrap64 ((wrap64 (x0_4 * 86400000000)) + x1_8))) != (wrap64 ((Int.tmod a3_1 (wrap64 ((wrap64 (x0_4 * 86400000000)) + x1_8))) + (wrap64 ((wrap64 (x0_4 * 86400000000)) + x1_8))))) = false := bne_eq_false_iff_eq.mpr c68
                              clear c68
                              replace H := Option.bind_eq_some_iff.mp H
                              obtain ⟨t608, A690, H⟩ := H
                              replace H : (some t608) = some r := H
                              have A69 := Aside0.mk A690
                              clear A690
                              obtain rfl := Option.some.inj H
                              have hnb70 := NB603_598.out
                              have hnc70 := NB598_603.out
                              have hnb71 := NB603_599.out
                              have hnc71 := NB599_603.out
                              have hcz72_0 : wc.cell? ⟨gb603, 0, none⟩ = some (.int .i64 t600) := (kI BK603.out 0).trans rfl
                              have hcz72_1 : wc.cell? ⟨gb603, 1, none⟩ = some (.int .i64 t601) := (kI BK603.out 1).trans rfl
                              have hfz72_0 := kG BK603.out 0
                              have hfz72_1 := kG BK603.out 1
                              have hnb73 := NB599_598.out
                              have hnc73 := NB598_599.out
                              have hcz74_0 : wc.cell? ⟨gb599, 0, none⟩ = some (.int .i64 a3_0) := (kI BK599.out 0).trans rfl
                              have hcz74_1 : wc.cell? ⟨gb599, 1, none⟩ = some (.int .i64 a3_1) := (kI BK599.out 1).trans rfl
                              have hfz74_0 := kG BK599.out 0
                              have hfz74_1 := kG BK599.out 1
                              have hcz75_0 : wc.cell? ⟨gb598, 0, none⟩ = some (.int .i64 a2_0) := (kI BK598.out 0).trans rfl
                              have hcz75_1 : wc.cell? ⟨gb598, 1, none⟩ = some (.int .i64 a2_1) := (kI BK598.out 1).trans rfl
                              have hfz75_0 := kG BK598.out 0
                              have hfz75_1 := kG BK598.out 1
                              go_wp2_with (first | (go_at_call 10; (with_reducible refine (computuslaw20_known.calls  t608 _ A69.out HRT.out).mono ?_); rintro e w76 ⟨rfl, hb⟩; have n0_ := Aside0.mk (kM (g := gb598) (o := .cells #[.int .i64 a2_0, .int .i64 a2_1] 23 (0, 0)) (by (with_reducible repeat (first | refine kE ?_ _ | refine kH ?_ | refine kF ?_ _)); exact BK598.out) hb); have n1_ := Aside0.mk (kM (g := gb599) (o := .cells #[.int .i64 a3_0, .int .i64 a3_1] 23 (0, 0)) (by (with_reducible repeat (first | refine kE ?_ _ | refine kH ?_ | refine kF ?_ _)); exact BK599.out) hb); have n2_ := Aside0.mk (kM (g := gb603) (o := .cells #[.int .i64 t600, .int .i64 t601] 23 (0, 0)) (by (with_reducible repeat (first | refine kE ?_ _ | refine kH ?_ | refine kF ?_ _)); exact BK603.out) hb); have n3_ := Aside0.mk (kJ (by repeat (first | (with_reducible first | exact HB.out | apply kB | apply kA | apply kC | refine kD ?_ GE598.out | refine kD ?_ GE599.out | refine kD ?_ GE603.out) | exact HB.out)) hb); clear BK598; clear BK599; clear BK603; clear HB; have BK598 := n0_; have BK599 := n1_; have BK603 := n2_; have HB := n3_; clear n0_ n1_ n2_ n3_; (try clear hb); (try clear hb2); (try clear hk); (try clear hi)))
                              go_ret
                              exact ⟨by first | rfl | (simp [errW_none, errW_some] <;> rfl) | (simp [*, errW_none, errW_some] <;> rfl), by repeat (first | (with_reducible first | exact HB.out | apply kB | apply kA | apply kC | refine kD ?_ GE598.out | refine kD ?_ GE599.out | refine kD ?_ GE603.out) | exact HB.out)⟩
                            · rw [if_neg c68] at H
                              have c68b0 : ((Int.tmod t601 (wrap64 ((wrap64 (x0_4 * 86400000000)) + x1_8))) == (wrap64 ((Int.tmod a3_1 (wrap64 ((wrap64 (x0_4 * 86400000000)) + x1_8))) + (wrap64 ((wrap64 (x0_4 * 86400000000)) + x1_8))))) = false := beq_eq_false_iff_ne.mpr c68
                              have c68b1 : ((Int.tmod t601 (wrap64 ((wrap64 (x0_4 * 86400000000)) + x1_8))) != (wrap64 ((Int.tmod a3_1 (wrap64 ((wrap64 (x0_4 * 86400000000)) + x1_8))) + (wrap64 ((wrap64 (x0_4 * 86400000000)) + x1_8))))) = true := bne_iff_ne.mpr c68
                              exact absurd (Option.some.inj H) (by rw [HRT.out]; decide)
                          · rw [if_neg c67] at H
                            have c67b0 : decide ((wrap64 (a2_1 - t601)) < (wrap64 ((wrap64 (x0_4 * 86400000000)) + x1_8))) = false := decide_eq_false c67
                            clear c67
                            exact absurd (Option.some.inj H) (by rw [HRT.out]; decide)
                        · rw [if_neg c66] at H
                          have c66b0 : decide (t601 ≤ a2_1) = false := decide_eq_false c66
                          clear c66
                          exact absurd (Option.some.inj H) (by rw [HRT.out]; decide)
                      · rw [if_neg c65] at H
                        have c65b0 : decide ((Int.tmod a3_1 (wrap64 ((wrap64 (x0_4 * 86400000000)) + x1_8))) < 0) = false := decide_eq_false c65
                        clear c65
                        by_cases c77 : t601 ≤ a2_1
                        · rw [if_pos c77] at H
                          have c77b0 : decide (t601 ≤ a2_1) = true := decide_eq_true c77
                          clear c77
                          by_cases c78 : (wrap64 (a2_1 - t601)) < (wrap64 ((wrap64 (x0_4 * 86400000000)) + x1_8))
                          · rw [if_pos c78] at H
                            have c78b0 : decide ((wrap64 (a2_1 - t601)) < (wrap64 ((wrap64 (x0_4 * 86400000000)) + x1_8))) = true := decide_eq_true c78
                            clear c78
                            by_cases c79 : (Int.tmod t601 (wrap64 ((wrap64 (x0_4 * 86400000000)) + x1_8))) = (Int.tmod a3_1 (wrap64 ((wrap64 (x0_4 * 86400000000)) + x1_8)))
                            · rw [if_pos c79] at H
                              have c79b0 : ((Int.tmod t601 (wrap64 ((wrap64 (x0_4 * 86400000000)) + x1_8))) == (Int.tmod a3_1 (wrap64 ((wrap64 (x0_4 * 86400000000)) + x1_8)))) = true := beq_iff_eq.mpr c79
                              have c79b1 : ((Int.tmod t601 (wrap64 ((wrap64 (x0_4 * 86400000000)) + x1_8))) != (Int.tmod a3_1 (wrap64 ((wrap64 (x0_4 * 86400000000)) + x1_8)))) = false := bne_eq_false_iff_eq.mpr c79
                              clear c79
                              replace H := Option.bind_eq_some_iff.mp H
                              obtain ⟨t609, A800, H⟩ := H
                              replace H : (some t609) = some r := H
                              have A80 := Aside0.mk A800
                              clear A800
                              obtain rfl := Option.some.inj H
                              have hnb81 := NB603_598.out
                              have hnc81 := NB598_603.out
                              have hnb82 := NB603_599.out
                              have hnc82 := NB599_603.out
                              have hcz83_0 : wc.cell? ⟨gb603, 0, none⟩ = some (.int .i64 t600) := (kI BK603.out 0).trans rfl
                              have hcz83_1 : wc.cell? ⟨gb603, 1, none⟩ = some (.int .i64 t601) := (kI BK603.out 1).trans rfl
                              have hfz83_0 := kG BK603.out 0
                              have hfz83_1 := kG BK603.out 1
                              have hnb84 := NB599_598.out
                              have hnc84 := NB598_599.out
                              have hcz85_0 : wc.cell? ⟨gb599, 0, none⟩ = some (.int .i64 a3_0) := (kI BK599.out 0).trans rfl
                              have hcz85_1 : wc.cell? ⟨gb599, 1, none⟩ = some (.int .i64 a3_1) := (kI BK599.out 1).trans rfl
                              have hfz85_0 := kG BK599.out 0
                              have hfz85_1 := kG BK599.out 1
                              have hcz86_0 : wc.cell? ⟨gb598, 0, none⟩ = some (.int .i64 a2_0) := (kI BK598.out 0).trans rfl
                              have hcz86_1 : wc.cell? ⟨gb598, 1, none⟩ = some (.int .i64 a2_1) := (kI BK598.out 1).trans rfl
                              have hfz86_0 := kG BK598.out 0
                              have hfz86_1 := kG BK598.out 1
                              go_wp2_with (first | (go_at_call 10; (with_reducible refine (computuslaw20_known.calls  t609 _ A80.out HRT.out).mono ?_); rintro e w87 ⟨rfl, hb⟩; have n0_ := Aside0.mk (kM (g := gb598) (o := .cells #[.int .i64 a2_0, .int .i64 a2_1] 23 (0, 0)) (by (with_reducible repeat (first | refine kE ?_ _ | refine kH ?_ | refine kF ?_ _)); exact BK598.out) hb); have n1_ := Aside0.mk (kM (g := gb599) (o := .cells #[.int .i64 a3_0, .int .i64 a3_1] 23 (0, 0)) (by (with_reducible repeat (first | refine kE ?_ _ | refine kH ?_ | refine kF ?_ _)); exact BK599.out) hb); have n2_ := Aside0.mk (kM (g := gb603) (o := .cells #[.int .i64 t600, .int .i64 t601] 23 (0, 0)) (by (with_reducible repeat (first | refine kE ?_ _ | refine kH ?_ | refine kF ?_ _)); exact BK603.out) hb); have n3_ := Aside0.mk (kJ (by repeat (first | (with_reducible first | exact HB.out | apply kB | apply kA | apply kC | refine kD ?_ GE598.out | refine kD ?_ GE599.out | refine kD ?_ GE603.out) | exact HB.out)) hb); clear BK598; clear BK599; clear BK603; clear HB; have BK598 := n0_; have BK599 := n1_; have BK603 := n2_; have HB := n3_; clear n0_ n1_ n2_ n3_; (try clear hb); (try clear hb2); (try clear hk); (try clear hi)))
                              go_ret
                              exact ⟨by first | rfl | (simp [errW_none, errW_some] <;> rfl) | (simp [*, errW_none, errW_some] <;> rfl), by repeat (first | (with_reducible first | exact HB.out | apply kB | apply kA | apply kC | refine kD ?_ GE598.out | refine kD ?_ GE599.out | refine kD ?_ GE603.out) | exact HB.out)⟩
                            · rw [if_neg c79] at H
                              have c79b0 : ((Int.tmod t601 (wrap64 ((wrap64 (x0_4 * 86400000000)) + x1_8))) == (Int.tmod a3_1 (wrap64 ((wrap64 (x0_4 * 86400000000)) + x1_8)))) = false := beq_eq_false_iff_ne.mpr c79
                              have c79b1 : ((Int.tmod t601 (wrap64 ((wrap64 (x0_4 * 86400000000)) + x1_8))) != (Int.tmod a3_1 (wrap64 ((wrap64 (x0_4 * 86400000000)) + x1_8)))) = true := bne_iff_ne.mpr c79
                              exact absurd (Option.some.inj H) (by rw [HRT.out]; decide)
                          · rw [if_neg c78] at H
                            have c78b0 : decide ((wrap64 (a2_1 - t601)) < (wrap64 ((wrap64 (x0_4 * 86400000000)) + x1_8))) = false := decide_eq_false c78
                            clear c78
                            exact absurd (Option.some.inj H) (by rw [HRT.out]; decide)
                        · rw [if_neg c77] at H
                          have c77b0 : decide (t601 ≤ a2_1) = false := decide_eq_false c77
                          clear c77
                          exact absurd (Option.some.inj H) (by rw [HRT.out]; decide)
/-- THE ONE PURE STATEMENT of computuslaw20_OpsWhole: yours. -/
def computuslaw20_OpsWhole.Pure : Prop := ∀ (a0 : Int) (a1 : Int) (a2_0 : Int) (a2_1 : Int) (a3_0 : Int) (a3_1 : Int), (Lit.int .i64 a0).wf = true → (Lit.int .i64 a1).wf = true → (Lit.int .i64 a2_0).wf = true → (Lit.int .i64 a2_1).wf = true → (Lit.int .i64 a3_0).wf = true → (Lit.int .i64 a3_1).wf = true → ∃ k, computuslaw20_OpsWhole.f k a0 a1 a2_0 a2_1 a3_0 a3_1 = some true
theorem computuslaw20_OpsWhole.walk (P : computuslaw20_OpsWhole.Pure) (a0 : Int) (a1 : Int) (a2_0 : Int) (a2_1 : Int) (a3_0 : Int) (a3_1 : Int) (w : World) (w0 : (Lit.int .i64 a0).wf = true) (w1 : (Lit.int .i64 a1).wf = true) (w2_0 : (Lit.int .i64 a2_0).wf = true) (w2_1 : (Lit.int .i64 a2_1).wf = true) (w3_0 : (Lit.int .i64 a3_0).wf = true) (w3_1 : (Lit.int .i64 a3_1).wf = true) :
    Calls Tryz.prog 4 #[.int .i64 a0, .int .i64 a1, .agg #[.int .i64 a2_0, .int .i64 a2_1], .agg #[.int .i64 a3_0, .int .i64 a3_1]] w fun e w' => e = .returned (.bool true) ∧ Below w.heap.size w w' := by
  obtain ⟨k, h⟩ := P a0 a1 a2_0 a2_1 a3_0 a3_1 w0 w1 w2_0 w2_1 w3_0 w3_1
  refine (computuslaw20_OpsWhole.calls k a0 a1 a2_0 a2_1 a3_0 a3_1 true w h rfl).mono ?_
  rintro e w' ⟨rfl, hd⟩
  exact ⟨rfl, hd⟩
end Go.Proofs.YthkmckmfgglafaaGreat.P
namespace Go.Proofs.YthkmckmfgglafaaGreat.Civ
set_option linter.unusedVariables false
set_option linter.unusedSimpArgs false
open Go.RowKit Go.Proofs.YthkmckmfgglafaaGreatW.PrintWords Go.Proofs.YthkmckmfgglafaaGreatW.PrintLast Go.Proofs.YthkmckmfgglafaaGreatW.PrintMore
theorem w64 {x : Int} (h1 : -9223372036854775808 ≤ x) (h2 : x ≤ 9223372036854775807) : wrap64 x = x := by unfold wrap64; omega
/-- A number is one of 64 bits. -/
def I64 (x : Int) : Prop := -9223372036854775808 ≤ x ∧ x ≤ 9223372036854775807
theorem i64_of_wf {x : Int} (h : (Lit.int .i64 x).wf = true) : I64 x := by
  simp only [Lit.wf, IntKind.min, IntKind.max, IntKind.signed, IntKind.bits, Bool.and_eq_true, decide_eq_true_eq, if_true] at h
  exact h
theorem wrap_i64 (x : Int) : I64 (wrap64 x) := by unfold I64 wrap64; omega
theorem w64_of {x : Int} (h : I64 x) : wrap64 x = x := w64 h.1 h.2
theorem td_pos {a b : Int} (ha : 0 ≤ a) : Int.tdiv a b = a / b := Int.tdiv_eq_ediv_of_nonneg ha
theorem tm_pos {a b : Int} (ha : 0 ≤ a) : Int.tmod a b = a % b := Int.tmod_eq_emod_of_nonneg ha
theorem td_neg {a b : Int} (ha : a ≤ 0) : Int.tdiv a b = -((-a) / b) := by
  have : Int.tdiv (-a) b = (-a) / b := Int.tdiv_eq_ediv_of_nonneg (by omega)
  rw [← this, Int.neg_tdiv, Int.neg_neg]
theorem tm_neg {a b : Int} (ha : a ≤ 0) : Int.tmod a b = -((-a) % b) := by
  have : Int.tmod (-a) b = (-a) % b := Int.tmod_eq_emod_of_nonneg (by omega)
  rw [← this, Int.neg_tmod, Int.neg_neg]
/-- Cut division against floored division. -/
theorem cut_floor (a : Int) {b : Int} (hb : 0 < b) : (Int.tmod a b < 0 → Int.tdiv a b = a / b + 1 ∧ Int.tmod a b = a % b - b ∧ 0 < a % b) ∧ (¬ Int.tmod a b < 0 → Int.tdiv a b = a / b ∧ Int.tmod a b = a % b) := by
  rcases Int.le_total 0 a with h | h
  · rw [td_pos h, tm_pos h]
    have := Int.emod_nonneg a (Int.ne_of_gt hb)
    exact ⟨fun h => by omega, fun _ => ⟨rfl, rfl⟩⟩
  · rw [td_neg h, tm_neg h]
    have e := Int.mul_ediv_add_emod (-a) b
    have h1 := Int.emod_nonneg (-a) (Int.ne_of_gt hb)
    have h2 := Int.emod_lt_of_pos (-a) hb
    generalize (-a) / b = q at *
    generalize (-a) % b = r at *
    constructor
    · intro hr
      have := (Int.ediv_emod_unique (a := a) (b := b) (r := b - r) (q := -q - 1) hb).2 ⟨by rw [Int.mul_sub, Int.mul_neg]; omega, by omega, by omega⟩
      omega
    · intro hr
      have := (Int.ediv_emod_unique (a := a) (b := b) (r := 0) (q := -q) hb).2 ⟨by rw [Int.mul_neg]; omega, by omega, by omega⟩
      omega
theorem tmod_bd (a : Int) {b : Int} (hb : 0 < b) : -b < Int.tmod a b ∧ Int.tmod a b < b := by
  have c := cut_floor a hb
  have h1 := Int.emod_nonneg a (Int.ne_of_gt hb)
  have h2 := Int.emod_lt_of_pos a hb
  by_cases h : Int.tmod a b < 0
  · have := (c.1 h).2.1; have := (c.1 h).2.2; omega
  · have := (c.2 h).2; omega
theorem ediv_i64 {a b : Int} (ha : I64 a) (hb : 0 < b) : -9223372036854775808 ≤ a / b ∧ a / b ≤ 9223372036854775807 := by
  obtain ⟨h1, h2⟩ := ha
  have e := Int.mul_ediv_add_emod a b
  have g1 := Int.emod_nonneg a (Int.ne_of_gt hb)
  have g2 := Int.emod_lt_of_pos a hb
  constructor
  · rw [Int.le_ediv_iff_mul_le hb]
    have : -9223372036854775808 * b ≤ -9223372036854775808 * 1 := Int.mul_le_mul_of_nonpos_left (by omega) (by omega)
    omega
  · rcases Int.lt_or_le a 0 with h | h
    · have : a / b < 0 := Int.ediv_lt_of_lt_mul hb (by omega)
      omega
    · have := Int.ediv_le_self b h; omega
theorem Ev.at1 {α : Type} {g : Nat → Option α} {r : α} (h : ∀ k, g (k + 1) = some r) : Ev g r :=
  ⟨1, fun k hk => by obtain ⟨m, rfl⟩ : ∃ m, k = m + 1 := ⟨k - 1, by omega⟩; exact h m⟩
theorem Ev.cast {α : Type} {g : Nat → Option α} {r r' : α} (h : Ev g r) (e : r = r') : Ev g r' := e ▸ h
theorem Ev.same {α : Type} {g : Nat → Option α} {r r' : α} (h : Ev g r) (h' : Ev g r') : r = r' := by
  obtain ⟨K, h⟩ := h
  obtain ⟨K', h'⟩ := h'
  have a := h (max K K') (by omega)
  rw [h' (max K K') (by omega)] at a
  exact (Option.some.inj a).symm
/-- What is told without rounds, and then what hangs on rounds. -/
theorem Ev.bind0 {α β : Type} {g : Option α} {f : Nat → α → Option β} {a : α} {r : β} (h : g = some a) (k : Ev (fun n => f n a) r) : Ev (fun n => g.bind (f n)) r := by
  subst h; exact k
/-- One round, as it stands. -/
theorem Ev.succ {α : Type} {g : Nat → Option α} {r : α} (h : Ev (fun k => g (k + 1)) r) : Ev g r := Ev.step (f := fun k => g (k + 1)) (fun _ => rfl) h
theorem Ev.pos {α : Type} {c : Prop} [Decidable c] {f g : Nat → Option α} {r : α} (h : c) (k : Ev f r) : Ev (fun n => if c then f n else g n) r := by
  simpa only [if_pos h] using k
theorem Ev.neg {α : Type} {c : Prop} [Decidable c] {f g : Nat → Option α} {r : α} (h : ¬ c) (k : Ev g r) : Ev (fun n => if c then f n else g n) r := by
  simpa only [if_neg h] using k
end Go.Proofs.YthkmckmfgglafaaGreat.Civ
namespace Go.Proofs.YthkmckmfgglafaaGreat.Civ
set_option linter.unusedVariables false
set_option linter.unusedSimpArgs false
/-- One if a year is a leap year. -/
def lp (y : Int) : Int := if y % 4 = 0 ∧ (y % 100 ≠ 0 ∨ y % 400 = 0) then 1 else 0
theorem lp_01 (y : Int) : 0 ≤ lp y ∧ lp y ≤ 1 := by unfold lp; split <;> omega
/-- Days from January 1, 2000 to January 1 of a year. -/
def dby (y : Int) : Int := 365 * (y - 2000) + (y - 1) / 4 - (y - 1) / 100 + (y - 1) / 400 - 484
theorem dby_succ (y : Int) : dby (y + 1) = dby y + 365 + lp y := by
  unfold dby lp; split <;> omega
theorem dby_era (y k : Int) : dby (y + 400 * k) = dby y + 146097 * k := by unfold dby; omega
/-- Between two years there are 365 days at least for each year. -/
theorem dby_far (a b : Int) (h : a ≤ b) : dby a + 365 * (b - a) ≤ dby b := by unfold dby; omega
theorem year_unique {a b n : Int} (h1 : dby a ≤ n) (h2 : n < dby (a + 1)) (h3 : dby b ≤ n) (h4 : n < dby (b + 1)) : a = b := by
  rcases Int.lt_trichotomy a b with h | h | h
  · have := dby_far (a + 1) b (by omega); omega
  · exact h
  · have := dby_far (b + 1) a (by omega); omega
/-- How many days a month has. -/
def mlen (y m : Int) : Int := if m < 1 ∨ 12 < m then 0 else if m = 2 then 28 + lp y else if m = 4 ∨ m = 6 ∨ m = 9 ∨ m = 11 then 30 else 31
/-- Days of a year ahead of a month. -/
def cum (y m : Int) : Int :=
  if m ≤ 1 then 0 else if m = 2 then 31 else
  (if m = 3 then 59 else if m = 4 then 90 else if m = 5 then 120 else if m = 6 then 151 else if m = 7 then 181 else if m = 8 then 212 else if m = 9 then 243 else if m = 10 then 273 else if m = 11 then 304 else if m = 12 then 334 else 365) + lp y
theorem twelve {m : Int} (h1 : 1 ≤ m) (h2 : m ≤ 12) : m = 1 ∨ m = 2 ∨ m = 3 ∨ m = 4 ∨ m = 5 ∨ m = 6 ∨ m = 7 ∨ m = 8 ∨ m = 9 ∨ m = 10 ∨ m = 11 ∨ m = 12 := by omega
theorem cum_succ (y m : Int) (h1 : 1 ≤ m) (h2 : m ≤ 12) : cum y (m + 1) = cum y m + mlen y m := by
  have hl := lp_01 y
  rcases twelve h1 h2 with e | e | e | e | e | e | e | e | e | e | e | e <;> subst e <;> simp [cum, mlen] <;> omega
theorem cum_end (y m : Int) (h : 12 < m) : cum y m = 365 + lp y := by
  unfold cum
  rw [if_neg (by omega), if_neg (by omega), if_neg (by omega), if_neg (by omega), if_neg (by omega), if_neg (by omega), if_neg (by omega), if_neg (by omega), if_neg (by omega), if_neg (by omega), if_neg (by omega), if_neg (by omega)]
theorem cum_step (y a b : Int) (h1 : 1 ≤ a) (h : a < b) (h2 : b ≤ 12) : cum y a + mlen y a ≤ cum y b := by
  have hl := lp_01 y
  rcases twelve h1 (by omega) with e | e | e | e | e | e | e | e | e | e | e | e <;> subst e <;>
  rcases twelve (by omega) h2 with e | e | e | e | e | e | e | e | e | e | e | e <;> subst e <;> simp [cum, mlen] <;> omega
theorem cum_bd (y m : Int) (h1 : 1 ≤ m) (h2 : m ≤ 12) : 0 ≤ cum y m ∧ cum y m + mlen y m ≤ 365 + lp y := by
  have hl := lp_01 y
  rcases twelve h1 h2 with e | e | e | e | e | e | e | e | e | e | e | e <;> subst e <;> simp [cum, mlen] <;> omega
/-- A date's day. -/
def dnum (y m d : Int) : Int := dby y + cum y m + d - 1
/-- A day is that of a date. -/
structure IsDate (n y m d : Int) : Prop where
  m1 : 1 ≤ m
  m12 : m ≤ 12
  d1 : 1 ≤ d
  dl : d ≤ mlen y m
  num : dnum y m d = n
theorem IsDate.year {n y m d : Int} (h : IsDate n y m d) : dby y ≤ n ∧ n < dby (y + 1) := by
  have hs := dby_succ y
  have hc := cum_bd y m h.m1 h.m12
  have h1 := h.d1
  have h2 := h.dl
  have h3 := h.num
  unfold dnum at h3
  omega
theorem IsDate.unique {n y m d y' m' d' : Int} (h : IsDate n y m d) (k : IsDate n y' m' d') : y = y' ∧ m = m' ∧ d = d' := by
  have hy := h.year
  have ky := k.year
  have e : y = y' := year_unique hy.1 hy.2 ky.1 ky.2
  subst e
  have h1 := h.d1; have h2 := h.dl; have h3 := h.num; have h4 := h.m1; have h5 := h.m12
  have k1 := k.d1; have k2 := k.dl; have k3 := k.num; have k4 := k.m1; have k5 := k.m12
  unfold dnum at h3 k3
  rcases Int.lt_trichotomy m m' with hm | hm | hm
  · have := cum_step y m m' h4 hm k5; omega
  · subst hm; exact ⟨rfl, rfl, by omega⟩
  · have := cum_step y m' m k4 hm h5; omega
/-- Each day has a date. -/
theorem year_of (n : Int) : ∃ y, dby y ≤ n ∧ n < dby (y + 1) := by
  -- of a day of the first 400 years behind 2000
  have base : ∀ k : Nat, ∀ n : Int, 0 ≤ n → n < dby (2000 + k) → ∃ y, 2000 ≤ y ∧ dby y ≤ n ∧ n < dby (y + 1) := by
    intro k
    induction k with
    | zero => intro n h0 h; exfalso; have : dby (2000 + ((0 : Nat) : Int)) = 0 := by decide
              omega
    | succ k ih =>
      intro n h0 h
      by_cases g : n < dby (2000 + k)
      · exact ih n h0 g
      · exact ⟨2000 + k, by omega, by omega, by have e : (2000 + ((k + 1 : Nat) : Int)) = 2000 + k + 1 := by omega
                                                rw [e] at h; exact h⟩
  obtain ⟨y, _, h1, h2⟩ := base 400 (n % 146097) (by omega) (by have : dby (2000 + ((400 : Nat) : Int)) = 146097 := by decide
                                                                omega)
  refine ⟨y + 400 * (n / 146097), ?_, ?_⟩
  · rw [dby_era]; omega
  · rw [show y + 400 * (n / 146097) + 1 = (y + 1) + 400 * (n / 146097) by omega, dby_era]; omega
theorem month_of (y left : Int) (h0 : 0 ≤ left) (h1 : left < 365 + lp y) : ∃ m, 1 ≤ m ∧ m ≤ 12 ∧ cum y m ≤ left ∧ left < cum y m + mlen y m := by
  have key : ∀ k : Nat, k ≤ 12 → left < cum y (1 + k) → ∃ m, 1 ≤ m ∧ m ≤ 12 ∧ cum y m ≤ left ∧ left < cum y m + mlen y m := by
    intro k
    induction k with
    | zero => intro _ h; exfalso; have : cum y (1 + ((0 : Nat) : Int)) = 0 := rfl
              omega
    | succ k ih =>
      intro hk h
      by_cases g : left < cum y (1 + k)
      · exact ih (by omega) g
      · refine ⟨1 + k, by omega, by omega, by omega, ?_⟩
        rw [← cum_succ y (1 + k) (by omega) (by omega), show (1 + (k : Int) + 1) = 1 + ((k + 1 : Nat) : Int) by omega]; exact h
  refine key 12 (by omega) ?_
  rw [cum_end y _ (by omega)]; exact h1
theorem date_of (n : Int) : ∃ y m d, IsDate n y m d := by
  obtain ⟨y, h1, h2⟩ := year_of n
  have hs := dby_succ y
  obtain ⟨m, a, b, c, e⟩ := month_of y (n - dby y) (by omega) (by omega)
  exact ⟨y, m, n - dby y - cum y m + 1, a, b, by omega, by omega, by unfold dnum; omega⟩
/-- The days that can be: those of the years -4718 to 294282. -/
def CanDay (n : Int) : Prop := -2453698 ≤ n ∧ n ≤ 106754173
end Go.Proofs.YthkmckmfgglafaaGreat.Civ
namespace Go.Proofs.YthkmckmfgglafaaGreat.Civ
set_option linter.unusedVariables false
set_option linter.unusedSimpArgs false
open Go.RowKit Go.Proofs.YthkmckmfgglafaaGreatW.PrintWords Go.Proofs.YthkmckmfgglafaaGreatW.PrintLast Go.Proofs.YthkmckmfgglafaaGreatW.PrintMore Go.Proofs.YthkmckmfgglafaaGreat.P
theorem floor_eq (a b : Int) (ha : I64 a) (hb : 1 < b) (hb2 : b ≤ 4611686018427387904) : civil_floor.f a b = some (a / b, a % b) := by
  have c := cut_floor a (b := b) (by omega)
  have q := ediv_i64 (b := b) ha (by omega)
  have h1 := Int.emod_nonneg a (b := b) (by omega)
  have h2 := Int.emod_lt_of_pos a (b := b) (by omega)
  unfold civil_floor.f
  rw [if_neg (by omega)]
  by_cases h : Int.tmod a b < 0
  · obtain ⟨c1, c2, _⟩ := c.1 h
    rw [if_pos h, c1, c2]
    have q2 : a / b + 1 ≤ 9223372036854775807 := by
      have : a / b ≤ 4611686018427387904 := by
        rcases Int.lt_or_le a 0 with g | g
        · have : a / b < 0 := Int.ediv_lt_of_lt_mul (by omega) (by omega)
          omega
        · have := Int.ediv_le_ediv (c := 2) (by omega) ha.2
          have h3 : a / b ≤ a / 2 := by
            rw [Int.le_ediv_iff_mul_le (by omega)]
            have e := Int.mul_ediv_add_emod a b
            have h4 := Int.emod_nonneg a (b := b) (by omega)
            have h5 : 0 ≤ a / b := Int.ediv_nonneg g (by omega)
            have h6 : a / b * 2 ≤ a / b * b := Int.mul_le_mul_of_nonneg_left (by omega) h5
            rw [Int.mul_comm b] at e
            omega
          omega
      omega
    rw [w64 (x := a / b + 1) (by omega) (by omega), w64 (by omega) (by omega), w64 (by omega) (by omega)]
    congr 2 <;> omega
  · obtain ⟨c1, c2⟩ := c.2 h
    rw [if_neg h, c1, c2, w64 q.1 q.2]
theorem era_eq (y : Int) : y / 400 * 146097 + y % 400 * 365 + y % 400 / 4 - y % 400 / 100 = 365 * y + y / 4 - y / 100 + y / 400 := by omega
theorem day_eq (y m d : Int) (h1 : 1 ≤ m) (h2 : m ≤ 12) (hy : -2000000 ≤ y) (hy2 : y ≤ 2000000) (hd : -100 ≤ d) (hd2 : d ≤ 100) : civil_day.f y m d = some (dnum y m d) := by
  have hl := lp_01 y
  unfold civil_day.f
  by_cases hm : m ≤ 2
  · rw [if_pos hm, w64 (x := y - 1) (by omega) (by omega), floor_eq _ _ (by unfold I64; omega) (by omega) (by omega)]
    simp only [Option.bind_some]
    simp (disch := omega) only [w64, td_pos]
    have e := era_eq (y - 1)
    congr 1
    unfold dnum dby
    rcases (by omega : m = 1 ∨ m = 2) with e | e <;> subst e <;> simp [cum] <;> omega
  · rw [if_neg hm, floor_eq _ _ (by unfold I64; omega) (by omega) (by omega)]
    simp only [Option.bind_some]
    simp (disch := omega) only [w64, td_pos]
    have e := era_eq y
    have e2 := dby_succ y
    have e3 : dby (y + 1) = 365 * (y - 1999) + y / 4 - y / 100 + y / 400 - 484 := by unfold dby; omega
    congr 1
    unfold dnum
    have : cum y m = (153 * (m - 3) + 2) / 5 + 59 + lp y := by
      rcases (by omega : m = 3 ∨ m = 4 ∨ m = 5 ∨ m = 6 ∨ m = 7 ∨ m = 8 ∨ m = 9 ∨ m = 10 ∨ m = 11 ∨ m = 12) with e | e | e | e | e | e | e | e | e | e <;> subst e <;> simp [cum]
    omega
theorem firstday_eq : civil_First.f = some (-2453698) := by
  unfold civil_First.f
  rw [day_eq _ _ _ (by omega) (by omega) (by omega) (by omega) (by omega) (by omega)]
  rfl
theorem lastday_eq : civil_Last.f = some 106754173 := by
  unfold civil_Last.f
  rw [day_eq _ _ _ (by omega) (by omega) (by omega) (by omega) (by omega) (by omega)]
  rfl
instance (n : Int) : Decidable (CanDay n) := inferInstanceAs (Decidable (_ ∧ _))
theorem can_eq (n : Int) : civil_can.f n = some (decide (CanDay n)) := by
  unfold civil_can.f
  rw [firstday_eq]
  simp only [Option.bind_some]
  by_cases h : n ≥ -2453698
  · rw [if_pos h, lastday_eq]
    simp only [Option.bind_some]
    congr 1
    apply decide_eq_decide.2
    unfold CanDay
    omega
  · rw [if_neg h, decide_eq_false (by unfold CanDay; omega)]
theorem march {n e c f k r : Int} (hc : 0 ≤ c ∧ c ≤ 3) (hf : 0 ≤ f ∧ f ≤ 24) (hk : 0 ≤ k ∧ k ≤ 3) (hn : n + 730425 = 146097 * e + 36524 * c + 1461 * f + 365 * k + r) :
    dby (400 * e + 100 * c + 4 * f + k + 1) = n + 306 - r := by unfold dby; omega
theorem march_leap {e c f : Int} (hc : 0 ≤ c ∧ c ≤ 3) (hf : 0 ≤ f ∧ f ≤ 24) (h : f < 24 ∨ c = 3) : lp (400 * e + 100 * c + 4 * f + 3 + 1) = 1 := by
  unfold lp; rw [if_pos (by omega)]
theorem parts_eq {n y m d : Int} (h : IsDate n y m d) (hb : -2000000000 ≤ n ∧ n ≤ 2000000000) : civil_parts.f n = some (y, m, d) := by
  unfold civil_parts.f
  rw [w64 (x := n + 730425) (by omega) (by omega), floor_eq _ _ (by unfold I64; omega) (by omega) (by omega)]
  simp only [Option.bind_some]
  have hn : n + 730425 = 146097 * ((n + 730425) / 146097) + (n + 730425) % 146097 := by omega
  have h0 : 0 ≤ (n + 730425) % 146097 ∧ (n + 730425) % 146097 < 146097 := by omega
  have he : -20000 ≤ (n + 730425) / 146097 ∧ (n + 730425) / 146097 ≤ 20000 := by omega
  generalize (n + 730425) / 146097 = e at *
  generalize (n + 730425) % 146097 = r0 at *
  rw [td_pos (a := r0) h0.1, w64 (x := r0 / 36524) (by omega) (by omega)]
  have hc : 0 ≤ mn (r0 / 36524) 3 ∧ mn (r0 / 36524) 3 ≤ 3 ∧ 0 ≤ r0 - mn (r0 / 36524) 3 * 36524 ∧ r0 - mn (r0 / 36524) 3 * 36524 ≤ 36524 ∧ (r0 - mn (r0 / 36524) 3 * 36524 = 36524 → mn (r0 / 36524) 3 = 3) := by
    unfold mn; split <;> omega
  generalize mn (r0 / 36524) 3 = c at *
  obtain ⟨hc0, hc1, hc2, hc3, hc4⟩ := hc
  rw [w64 (x := c * 36524) (by omega) (by omega), w64 (x := r0 - c * 36524) (by omega) (by omega)]
  obtain ⟨r1, hr1⟩ : ∃ r1, r1 = r0 - c * 36524 := ⟨_, rfl⟩
  rw [← hr1] at hc2 hc3 hc4 ⊢
  rw [td_pos (a := r1) hc2, w64 (x := r1 / 1461) (by omega) (by omega)]
  have hf : 0 ≤ r1 / 1461 ∧ r1 / 1461 ≤ 24 ∧ 0 ≤ r1 - r1 / 1461 * 1461 ∧ r1 - r1 / 1461 * 1461 ≤ 1460 ∧ (r1 - r1 / 1461 * 1461 = 1460 → r1 / 1461 < 24 ∨ c = 3) := by omega
  generalize r1 / 1461 = f at *
  obtain ⟨hf0, hf1, hf2, hf3, hf4⟩ := hf
  rw [w64 (x := f * 1461) (by omega) (by omega), w64 (x := r1 - f * 1461) (by omega) (by omega)]
  obtain ⟨r2, hr2⟩ : ∃ r2, r2 = r1 - f * 1461 := ⟨_, rfl⟩
  rw [← hr2] at hf2 hf3 hf4 ⊢
  rw [td_pos (a := r2) hf2, w64 (x := r2 / 365) (by omega) (by omega)]
  have hk : 0 ≤ mn (r2 / 365) 3 ∧ mn (r2 / 365) 3 ≤ 3 ∧ 0 ≤ r2 - mn (r2 / 365) 3 * 365 ∧ (r2 - mn (r2 / 365) 3 * 365 ≤ 364 ∨ r2 - mn (r2 / 365) 3 * 365 = 365 ∧ r2 = 1460 ∧ mn (r2 / 365) 3 = 3) := by
    unfold mn; split <;> omega
  generalize mn (r2 / 365) 3 = k at *
  obtain ⟨hk0, hk1, hk2, hk3⟩ := hk
  rw [w64 (x := k * 365) (by omega) (by omega), w64 (x := r2 - k * 365) (by omega) (by omega)]
  obtain ⟨r3, hr3⟩ : ∃ r3, r3 = r2 - k * 365 := ⟨_, rfl⟩
  rw [← hr3] at hk2 hk3 ⊢
  have hn' : n + 730425 = 146097 * e + 36524 * c + 1461 * f + 365 * k + r3 := by omega
  have hY := march ⟨hc0, hc1⟩ ⟨hf0, hf1⟩ ⟨hk0, hk1⟩ hn'
  have hL : r3 = 365 → lp (400 * e + 100 * c + 4 * f + k + 1) = 1 := by
    intro hr
    have e1 : k = 3 := by omega
    subst e1
    exact march_leap ⟨hc0, hc1⟩ ⟨hf0, hf1⟩ (by omega)
  have hlb := lp_01 (400 * e + 100 * c + 4 * f + k + 1)
  have hY2 := dby_succ (400 * e + 100 * c + 4 * f + k)
  have h365 : r3 ≤ 365 := by omega
  clear hr1 hr2 hr3 hn' hn hk3 hf4 hc4
  rw [w64 (x := 5 * r3) (by omega) (by omega), w64 (x := 5 * r3 + 2) (by omega) (by omega), td_pos (a := 5 * r3 + 2) (by omega), w64 (x := (5 * r3 + 2) / 153) (by omega) (by omega)]
  have hm : 0 ≤ (5 * r3 + 2) / 153 ∧ (5 * r3 + 2) / 153 ≤ 11 ∧ 153 * ((5 * r3 + 2) / 153) ≤ 5 * r3 + 2 ∧ 5 * r3 + 2 < 153 * ((5 * r3 + 2) / 153) + 153 := by omega
  generalize (5 * r3 + 2) / 153 = m' at *
  obtain ⟨hm0, hm1, hm2, hm3⟩ := hm
  rw [w64 (x := e * 400) (by omega) (by omega), w64 (x := c * 100) (by omega) (by omega), w64 (x := f * 4) (by omega) (by omega), w64 (x := e * 400 + c * 100) (by omega) (by omega), w64 (x := e * 400 + c * 100 + f * 4) (by omega) (by omega), w64 (x := e * 400 + c * 100 + f * 4 + k) (by omega) (by omega)]
  rw [w64 (x := 153 * m') (by omega) (by omega), w64 (x := 153 * m' + 2) (by omega) (by omega), td_pos (a := 153 * m' + 2) (by omega), w64 (x := (153 * m' + 2) / 5) (by omega) (by omega), w64 (x := r3 - (153 * m' + 2) / 5) (by omega) (by omega), w64 (x := r3 - (153 * m' + 2) / 5 + 1) (by omega) (by omega)]
  have ey : e * 400 + c * 100 + f * 4 + k = 400 * e + 100 * c + 4 * f + k := by omega
  rw [ey]
  have hyb : -9000000 ≤ 400 * e + 100 * c + 4 * f + k ∧ 400 * e + 100 * c + 4 * f + k ≤ 9000000 := by omega
  clear ey hc0 hc1 hc2 hc3 hf0 hf1 hf2 hf3 hk0 hk1 he h0
  generalize 400 * e + 100 * c + 4 * f + k = Y at *
  by_cases hge : m' ≥ 10
  · rw [if_pos hge, w64 (x := Y + 1) (by omega) (by omega), w64 (x := m' - 9) (by omega) (by omega)]
    have key : IsDate n (Y + 1) (m' - 9) (r3 - (153 * m' + 2) / 5 + 1) := by
      rcases (by omega : m' = 10 ∨ m' = 11) with e1 | e1 <;> subst e1
      · exact ⟨by omega, by omega, by omega, by simp [mlen]; omega, by simp [dnum, cum]; omega⟩
      · refine ⟨by omega, by omega, by omega, ?_, by simp [dnum, cum]; omega⟩
        simp only [mlen]
        by_cases g : r3 = 365
        · rw [hL g, g]; decide
        · rw [if_neg (by omega), if_pos (by omega)]; omega
    obtain ⟨rfl, rfl, rfl⟩ := h.unique key
    rfl
  · rw [if_neg hge, w64 (x := m' + 3) (by omega) (by omega)]
    have key : IsDate n Y (m' + 3) (r3 - (153 * m' + 2) / 5 + 1) := by
      rcases (by omega : m' = 0 ∨ m' = 1 ∨ m' = 2 ∨ m' = 3 ∨ m' = 4 ∨ m' = 5 ∨ m' = 6 ∨ m' = 7 ∨ m' = 8 ∨ m' = 9) with e1 | e1 | e1 | e1 | e1 | e1 | e1 | e1 | e1 | e1 <;> subst e1 <;>
        exact ⟨by omega, by omega, by omega, by simp [mlen]; omega, by simp [dnum, cum]; omega⟩
    obtain ⟨rfl, rfl, rfl⟩ := h.unique key
    rfl
theorem date_eq {n y m d : Int} (h : IsDate n y m d) (hc : CanDay n) : civil_Date.f n = some (y, m, d, 0) := by
  unfold civil_Date.f
  rw [can_eq]
  simp only [Option.bind_some, decide_eq_true_eq]
  have hc' := hc
  unfold CanDay at hc'
  rw [if_pos hc, parts_eq h (by omega)]
  rfl
theorem date_no {n : Int} (hc : ¬ CanDay n) : civil_Date.f n = some (0, 0, 0, 10) := by
  unfold civil_Date.f
  rw [can_eq]
  simp only [Option.bind_some, decide_eq_true_eq]
  rw [if_neg hc]
end Go.Proofs.YthkmckmfgglafaaGreat.Civ
namespace Go.Proofs.YthkmckmfgglafaaGreat.Civ
set_option linter.unusedVariables false
set_option linter.unusedSimpArgs false
open Go.RowKit Go.Proofs.YthkmckmfgglafaaGreatW.PrintWords Go.Proofs.YthkmckmfgglafaaGreatW.PrintLast Go.Proofs.YthkmckmfgglafaaGreatW.PrintMore Go.Proofs.YthkmckmfgglafaaGreat.P
theorem u64m (x : Int) : IntKind.u64.wrap x = x % 18446744073709551616 := by simp [IntKind.wrap, IntKind.bits, IntKind.signed]
theorem u64w {x : Int} (h1 : 0 ≤ x) (h2 : x ≤ 18446744073709551615) : IntKind.u64.wrap x = x := by rw [u64m]; omega
theorem wraps_u64 (n : Int) (h₀ : 0 ≤ n) (h₁ : n < 2 ^ 64) : IntKind.u64.wrap n = n := by rw [u64m]; omega
theorem and32 {x : Int} (h1 : 0 ≤ x) (h2 : x ≤ 18446744073709551615) : Go.bits .and .u64 x 4294967295 = x % 4294967296 :=
  bits_mask .u64 64 (by decide) wraps_u64 32 (by decide) x h1 (by omega)
end Go.Proofs.YthkmckmfgglafaaGreat.Civ
namespace Go.Proofs.YthkmckmfgglafaaGreat.Civ
set_option linter.unusedVariables false
set_option linter.unusedSimpArgs false
open Go.RowKit Go.Proofs.YthkmckmfgglafaaGreatW.PrintWords Go.Proofs.YthkmckmfgglafaaGreatW.PrintLast Go.Proofs.YthkmckmfgglafaaGreatW.PrintMore Go.Proofs.YthkmckmfgglafaaGreat.P
instance (x : Int) : Decidable (I64 x) := inferInstanceAs (Decidable (_ ∧ _))
/-- A number, if it is one of 64 bits; else out of range. -/
def out (z : Int) : Int × Int := if I64 z then (z, 0) else (0, 10)
theorem out_in {z : Int} (h : I64 z) : out z = (z, 0) := if_pos h
theorem out_no {z : Int} (h : ¬ I64 z) : out z = (0, 10) := if_neg h
theorem add_eq (a b : Int) (ha : I64 a) (hb : I64 b) : num_Add.f a b = some (out (a + b)) := by
  unfold num_Add.f out
  by_cases h : I64 (a + b)
  · rw [if_pos h, w64_of h, if_neg]
    simp only [bne_iff_ne, ne_eq, Decidable.not_not]
    apply decide_eq_decide.2; omega
  · rw [if_neg h, if_pos]
    unfold I64 at *
    have hw : wrap64 (a + b) = a + b - 18446744073709551616 ∨ wrap64 (a + b) = a + b + 18446744073709551616 := by unfold wrap64; omega
    simp only [bne_iff_ne, ne_eq, decide_eq_decide]
    unfold wrap64 at *
    omega
theorem sub_eq (a b : Int) (ha : I64 a) (hb : I64 b) : num_Sub.f a b = some (out (a - b)) := by
  unfold num_Sub.f out
  by_cases h : I64 (a - b)
  · rw [if_pos h, w64_of h, if_neg]
    simp only [bne_iff_ne, ne_eq, Decidable.not_not]
    apply decide_eq_decide.2; omega
  · rw [if_neg h, if_pos]
    unfold I64 at *
    simp only [bne_iff_ne, ne_eq, decide_eq_decide]
    unfold wrap64 at *
    omega
theorem neg_eq (a : Int) (ha : I64 a) : num_Neg.f a = some (out (-a)) := by
  unfold num_Neg.f
  rw [sub_eq 0 a (by unfold I64; omega) ha]
  simp only [Option.bind_some, Int.zero_sub]
/-- Without a sign. -/
def ab (a : Int) : Int := if a < 0 then -a else a
theorem ab_bd {a : Int} (h : I64 a) : 0 ≤ ab a ∧ ab a ≤ 9223372036854775808 := by unfold ab; unfold I64 at h; split <;> omega
theorem ab_pos {a : Int} (h : 0 ≤ a) : ab a = a := by unfold ab; rw [if_neg (by omega)]
theorem ab_neg {a : Int} (h : a < 0) : ab a = -a := by unfold ab; rw [if_pos h]
theorem size_eq (a : Int) (ha : I64 a) : num_size.f a = some (ab a) := by
  unfold num_size.f ab
  unfold I64 at ha
  by_cases h : a < 0
  · rw [if_pos h, if_pos h, u64m, u64m]; congr 1; omega
  · rw [if_neg h, if_neg h, u64m]; congr 1; omega
theorem mul_bd {x y a b : Int} (hx : 0 ≤ x) (hxa : x ≤ a) (hy : 0 ≤ y) (hyb : y ≤ b) : 0 ≤ x * y ∧ x * y ≤ a * b :=
  ⟨Int.mul_nonneg hx hy, Int.mul_le_mul hxa hyb hy (by omega)⟩
theorem mul64_eq (x y : Int) (hx : 0 ≤ x) (hx1 : x ≤ 18446744073709551615) (hy : 0 ≤ y) (hy1 : y ≤ 18446744073709551615) :
    bits_Mul64.f x y = some (x * y / 18446744073709551616, x * y % 18446744073709551616) := by
  unfold bits_Mul64.f
  rw [and32 hx hx1, and32 hy hy1]
  have ex : x = x / 4294967296 * 4294967296 + x % 4294967296 := by omega
  have ey : y = y / 4294967296 * 4294967296 + y % 4294967296 := by omega
  have bx1 : 0 ≤ x / 4294967296 ∧ x / 4294967296 ≤ 4294967295 := by omega
  have bx0 : 0 ≤ x % 4294967296 ∧ x % 4294967296 ≤ 4294967295 := by omega
  have by1 : 0 ≤ y / 4294967296 ∧ y / 4294967296 ≤ 4294967295 := by omega
  have by0 : 0 ≤ y % 4294967296 ∧ y % 4294967296 ≤ 4294967295 := by omega
  have p11 := mul_bd bx1.1 bx1.2 by1.1 by1.2
  have p10 := mul_bd bx1.1 bx1.2 by0.1 by0.2
  have p01 := mul_bd bx0.1 bx0.2 by1.1 by1.2
  have p00 := mul_bd bx0.1 bx0.2 by0.1 by0.2
  have e : x * y = x / 4294967296 * (y / 4294967296) * 18446744073709551616 + (x / 4294967296 * (y % 4294967296) + x % 4294967296 * (y / 4294967296)) * 4294967296 + x % 4294967296 * (y % 4294967296) := by
    conv => lhs; rw [ex, ey]
    simp only [Int.mul_add, Int.add_mul]
    have c1 : x / 4294967296 * 4294967296 * (y / 4294967296 * 4294967296) = x / 4294967296 * (y / 4294967296) * 18446744073709551616 := by
      rw [Int.mul_assoc, Int.mul_left_comm 4294967296, ← Int.mul_assoc (x / 4294967296)]; rfl
    have c2 : x % 4294967296 * (y / 4294967296 * 4294967296) = x % 4294967296 * (y / 4294967296) * 4294967296 := by rw [Int.mul_assoc]
    have c3 : x / 4294967296 * 4294967296 * (y % 4294967296) = x / 4294967296 * (y % 4294967296) * 4294967296 := by rw [Int.mul_assoc, Int.mul_comm 4294967296, ← Int.mul_assoc]
    rw [c1, c2, c3]; omega
  generalize x * y = P at *
  generalize x / 4294967296 * (y / 4294967296) = P11 at *
  generalize x / 4294967296 * (y % 4294967296) = P10 at *
  generalize x % 4294967296 * (y / 4294967296) = P01 at *
  generalize x % 4294967296 * (y % 4294967296) = P00 at *
  clear ex ey bx1 bx0 by1 by0 hx hx1 hy hy1
  rw [u64w (x := P11) (by omega) (by omega), u64w (x := P10) (by omega) (by omega), u64w (x := P00) (by omega) (by omega), u64w (x := P01) (by omega) (by omega)]
  have t : 0 ≤ P00 / 4294967296 ∧ P00 / 4294967296 ≤ 4294967295 := by omega
  rw [u64w (x := P10 + P00 / 4294967296) (by omega) (by omega), and32 (by omega) (by omega)]
  obtain ⟨T, hT⟩ : ∃ T, P10 + P00 / 4294967296 = T := ⟨_, rfl⟩
  rw [hT]
  rw [u64w (x := T % 4294967296 + P01) (by omega) (by omega), u64w (x := P11 + T / 4294967296) (by omega) (by omega), u64w (x := P11 + T / 4294967296 + (T % 4294967296 + P01) / 4294967296) (by omega) (by omega), u64m]
  congr 2
  omega
theorem product_eq (a b : Int) (ha : I64 a) (hb : I64 b) : num_product.f a b = some (ab a * ab b / 18446744073709551616, ab a * ab b % 18446744073709551616) := by
  have h1 := ab_bd ha
  have h2 := ab_bd hb
  unfold num_product.f
  rw [size_eq a ha, size_eq b hb]
  simp only [Option.bind_some]
  rw [mul64_eq _ _ h1.1 (by omega) h2.1 (by omega)]
  rfl
theorem signed_eq (k : Nat) (neg : Bool) (hi lo : Int) (h0 : 0 ≤ hi) (h1 : 0 ≤ lo) (h2 : lo ≤ 18446744073709551615) :
    num_signed.f (k + 1) neg hi lo = some (out (if neg = true then -(hi * 18446744073709551616 + lo) else hi * 18446744073709551616 + lo)) := by
  unfold num_signed.f
  by_cases hh : hi = 0
  · subst hh
    rw [if_pos rfl]
    cases neg with
    | true =>
      simp only [if_true, num_signed.j0]
      by_cases g : lo ≤ 9223372036854775808
      · rw [decide_eq_true g, if_pos rfl, out_in (by unfold I64; omega), u64m]
        congr 2; unfold wrap64; omega
      · rw [decide_eq_false g, if_neg (by simp), out_no (by unfold I64; omega)]
    | false =>
      simp only [num_signed.j0, Bool.false_eq_true, if_false]
      by_cases g : lo > 9223372036854775807
      · rw [if_pos g, out_no (by unfold I64; omega)]
      · rw [if_neg g, out_in (by unfold I64; omega), w64 (by omega) (by omega)]
        congr 2; omega
  · rw [if_neg hh]
    cases neg with
    | true => rw [if_pos rfl, out_no (by unfold I64; omega)]
    | false => rw [if_neg (by simp), out_no (by unfold I64; omega)]
/-- The sign of a product. -/
theorem mul_sign (a b : Int) : (if ((decide (a < 0)) != (decide (b < 0))) = true then -(ab a * ab b) else ab a * ab b) = a * b := by
  by_cases h1 : a < 0
  · by_cases h2 : b < 0
    · rw [decide_eq_true h1, decide_eq_true h2, if_neg (by simp), ab_neg h1, ab_neg h2, Int.neg_mul_neg]
    · rw [decide_eq_true h1, decide_eq_false h2, if_pos (by simp), ab_neg h1, ab_pos (by omega), Int.neg_mul, Int.neg_neg]
  · by_cases h2 : b < 0
    · rw [decide_eq_false h1, decide_eq_true h2, if_pos (by simp), ab_pos (by omega), ab_neg h2, Int.mul_neg, Int.neg_neg]
    · rw [decide_eq_false h1, decide_eq_false h2, if_neg (by simp), ab_pos (by omega), ab_pos (by omega)]
theorem mul_eq (k : Nat) (a b : Int) (ha : I64 a) (hb : I64 b) : num_Mul.f (k + 1) a b = some (out (a * b)) := by
  have h1 := ab_bd ha
  have h2 := ab_bd hb
  have h3 := mul_bd h1.1 h1.2 h2.1 h2.2
  unfold num_Mul.f
  rw [product_eq a b ha hb]
  simp only [Option.bind_some]
  rw [signed_eq _ _ _ _ (by omega) (by omega) (by omega)]
  simp only [Option.bind_some]
  rw [show ab a * ab b / 18446744073709551616 * 18446744073709551616 + ab a * ab b % 18446744073709551616 = ab a * ab b by omega, mul_sign]
/-- How often, the greatest whole number that is not above; what is left. -/
def fl (a b : Int) : Int := if b < 0 then (-a) / (-b) else a / b
def md (a b : Int) : Int := if b < 0 then -((-a) % (-b)) else a % b
theorem fl_unique {a b q r : Int} (h : a = b * q + r) (hr : (0 ≤ r ∧ r < b) ∨ (b < r ∧ r ≤ 0)) : fl a b = q ∧ md a b = r := by
  unfold fl md
  by_cases hb : b < 0
  · rw [if_pos hb, if_pos hb]
    have := (Int.ediv_emod_unique (a := -a) (b := -b) (r := -r) (q := q) (by omega)).2 ⟨by rw [Int.neg_mul]; omega, by omega, by omega⟩
    omega
  · rw [if_neg hb, if_neg hb]
    have := (Int.ediv_emod_unique (a := a) (b := b) (r := r) (q := q) (by omega)).2 ⟨by omega, by omega, by omega⟩
    omega
theorem div64_small (k : Nat) (lo y : Int) (h0 : 0 < y) (h1 : 0 ≤ lo) (h2 : lo ≤ 18446744073709551615) : bits_Div64.f k 0 lo y = some (lo / y, lo % y) := by
  unfold bits_Div64.f
  rw [if_neg (by omega), if_neg (by omega), if_pos rfl, td_pos h1, tm_pos h1]
  have := Int.ediv_le_self y h1
  have := Int.ediv_nonneg h1 (b := y) (by omega)
  rw [u64w (by omega) (by omega)]
/-- Of a product without signs, and how often a number without a sign is there: with the signs. -/
theorem fl_signs {a b c P D : Int} (hP : ab a * ab b = P) (hD : ab c = D) (hc : c ≠ 0) :
    fl (a * b) c = if (((decide (a < 0)) != (decide (b < 0))) != (decide (c < 0))) = true then (if P % D = 0 then -(P / D) else -(P / D) - 1) else P / D := by
  have hs := mul_sign a b
  rw [hP] at hs
  have hD0 : 0 < D := by rw [← hD]; unfold ab; split <;> omega
  have e := Int.mul_ediv_add_emod P D
  have r0 := Int.emod_nonneg P (Int.ne_of_gt hD0)
  have r1 := Int.emod_lt_of_pos P hD0
  have hP0 : ((decide (a < 0)) != (decide (b < 0))) = true → a * b = -P := fun h => by rw [if_pos h] at hs; exact hs.symm
  have hP1 : ((decide (a < 0)) != (decide (b < 0))) = false → a * b = P := fun h => by rw [if_neg (by rw [h]; simp)] at hs; exact hs.symm
  generalize ((decide (a < 0)) != (decide (b < 0))) = s at *
  generalize P / D = q at *
  generalize P % D = r at *
  have em : D * (q + 1) = D * q + D := by rw [Int.mul_add, Int.mul_one]
  by_cases h3 : c < 0
  · rw [ab_neg h3] at hD
    rw [decide_eq_true h3]
    cases s with
    | true =>
      rw [if_neg (by simp), hP0 rfl]
      exact (fl_unique (r := -r) (by rw [← e, show c = -D by omega, Int.neg_mul]; omega) (by omega)).1
    | false =>
      rw [if_pos (by simp), hP1 rfl]
      by_cases hr : r = 0
      · rw [if_pos hr]
        exact (fl_unique (r := 0) (by rw [← e, show c = -D by omega, Int.neg_mul_neg]; omega) (by omega)).1
      · rw [if_neg hr]
        exact (fl_unique (r := r - D) (by rw [← e, show c = -D by omega, show -q - 1 = -(q + 1) by omega, Int.neg_mul_neg]; omega) (by omega)).1
  · rw [ab_pos (by omega)] at hD
    subst hD
    rw [decide_eq_false h3]
    cases s with
    | true =>
      rw [if_pos (by simp), hP0 rfl]
      by_cases hr : r = 0
      · rw [if_pos hr]
        exact (fl_unique (r := 0) (by rw [← e, Int.mul_neg]; omega) (by omega)).1
      · rw [if_neg hr]
        exact (fl_unique (r := c - r) (by rw [← e, show -q - 1 = -(q + 1) by omega, Int.mul_neg]; omega) (by omega)).1
    | false =>
      rw [if_neg (by simp), hP1 rfl]
      exact (fl_unique (r := r) (by omega) (by omega)).1
theorem add64_eq (x : Int) (h0 : 0 ≤ x) : bits_Add64.f x 1 0 = some ((x + 1) % 18446744073709551616, (x + 1) / 18446744073709551616) := by
  unfold bits_Add64.f
  rw [if_pos h0, if_pos (by omega), if_pos (by omega), if_pos (by omega), Int.add_zero]
/-- One number times another one, and how often a third one is there: if the division of 128 bits by 64 is as it is. -/
theorem scale_of (k : Nat) (a b c : Int) (ha : I64 a) (hb : I64 b) (hc : I64 c) (h0 : c ≠ 0)
    (hd : ab a * ab b / 18446744073709551616 < ab c → bits_Div64.f (k + 1) (ab a * ab b / 18446744073709551616) (ab a * ab b % 18446744073709551616) (ab c) = some (ab a * ab b / ab c, ab a * ab b % ab c)) :
    num_Scale.f (k + 1) a b c = some (out (fl (a * b) c)) := by
  have h1 := ab_bd ha
  have h2 := ab_bd hb
  have h3 := ab_bd hc
  have h4 := mul_bd h1.1 h1.2 h2.1 h2.2
  have hD0 : 0 < ab c := by unfold ab; split <;> omega
  rw [fl_signs rfl rfl h0]
  unfold num_Scale.f
  rw [if_neg h0, product_eq a b ha hb, size_eq c hc]
  simp only [Option.bind_some]
  generalize hP : ab a * ab b = P at *
  generalize hD : ab c = D at *
  have e := Int.mul_ediv_add_emod P D
  have r0 := Int.emod_nonneg P (Int.ne_of_gt hD0)
  have r1 := Int.emod_lt_of_pos P hD0
  have q0 : 0 ≤ P / D := Int.ediv_nonneg h4.1 (by omega)
  by_cases hl : P / 18446744073709551616 ≥ D
  · rw [if_pos hl]
    have hq : 18446744073709551616 ≤ P / D := by
      rw [Int.le_ediv_iff_mul_le hD0]; omega
    split
    · split
      · rw [out_no (by unfold I64; omega)]
      · rw [out_no (by unfold I64; omega)]
    · rw [out_no (by unfold I64; omega)]
  · rw [if_neg hl, hd (by omega)]
    simp only [Option.bind_some]
    have hq : P / D < 18446744073709551616 := Int.ediv_lt_of_lt_mul hD0 (by omega)
    generalize P / D = q at *
    generalize P % D = r at *
    by_cases hs : (((decide (a < 0)) != (decide (b < 0))) != (decide (c < 0))) = true
    · rw [if_pos hs, if_pos hs, hs]
      by_cases hr : r = 0
      · rw [if_pos hr, if_pos hr, signed_eq _ _ _ _ (by omega) (by omega) (by omega), if_pos rfl]
        simp only [Option.bind_some]
        rw [show (0 : Int) * 18446744073709551616 + q = q by omega]
      · rw [if_neg hr, if_neg hr, add64_eq _ q0]
        simp only [Option.bind_some]
        rw [signed_eq _ _ _ _ (by omega) (by omega) (by omega), if_pos rfl]
        simp only [Option.bind_some]
        rw [show (q + 1) / 18446744073709551616 * 18446744073709551616 + (q + 1) % 18446744073709551616 = q + 1 by omega, show -(q + 1) = -q - 1 by omega]
    · rw [if_neg hs, if_neg hs, signed_eq _ _ _ _ (by omega) (by omega) (by omega), if_neg hs]
      simp only [Option.bind_some]
      rw [show (0 : Int) * 18446744073709551616 + q = q by omega]
theorem div_eq (k : Nat) (a c : Int) (ha : I64 a) (hc : I64 c) (h0 : c ≠ 0) : num_Div.f (k + 1) a c = some (out (fl a c)) := by
  have h1 := ab_bd ha
  have h3 := ab_bd hc
  have hD0 : 0 < ab c := by unfold ab; split <;> omega
  unfold num_Div.f
  rw [scale_of k a 1 c ha (by unfold I64; omega) hc h0 (fun _ => ?_)]
  · simp only [Option.bind_some, Int.mul_one]
  · rw [ab_pos (a := 1) (by omega), Int.mul_one, show ab a / 18446744073709551616 = 0 by omega, show ab a % 18446744073709551616 = ab a by omega]
    exact div64_small _ _ _ hD0 h1.1 (by omega)
theorem mod_eq (a b : Int) (ha : I64 a) (hb : I64 b) (h0 : b ≠ 0) : num_Mod.f a b = some (md a b, 0) := by
  unfold num_Mod.f
  rw [if_neg h0]
  by_cases h1 : b = -1
  · rw [if_pos h1]
    have : md a b = 0 := by unfold md; rw [if_pos (by omega), h1]; simp
    rw [this]
  rw [if_neg h1]
  unfold I64 at hb
  by_cases hs : b < 0
  · -- the remainder of a cut division has the sign of a
    have e : Int.tmod a b = Int.tmod a (-b) := by rw [Int.tmod_neg]
    have c := cut_floor a (b := -b) (by omega)
    have g1 := Int.emod_nonneg a (b := -b) (by omega)
    have g2 := Int.emod_lt_of_pos a (b := -b) (by omega)
    have e2 : md a b = if a % (-b) = 0 then 0 else a % (-b) + b := by
      have d := Int.mul_ediv_add_emod a (-b)
      split
      · rename_i hz
        exact (fl_unique (q := -(a / -b)) (by rw [Int.mul_neg, ← Int.neg_mul]; omega) (by omega)).2
      · exact (fl_unique (q := -(a / -b) - 1) (by rw [show -(a / -b) - 1 = -((a / -b) + 1) by omega, Int.mul_neg, ← Int.neg_mul, Int.mul_add]; omega) (by omega)).2
    rw [e, e2]
    by_cases hn : Int.tmod a (-b) < 0
    · obtain ⟨c1, c2, c3⟩ := c.1 hn
      rw [if_neg (by omega), if_neg (show ¬ a % (-b) = 0 by omega), decide_eq_true hn, decide_eq_true hs, if_neg (by simp)]
      congr 2; omega
    · obtain ⟨c1, c2⟩ := c.2 hn
      rw [c2]
      by_cases hz : a % (-b) = 0
      · rw [if_pos hz, if_pos hz, hz]
      · rw [if_neg hz, if_neg hz, decide_eq_false (show ¬ a % (-b) < 0 by omega), decide_eq_true hs, if_pos (by simp), w64 (by omega) (by omega)]
  · have c := cut_floor a (b := b) (by omega)
    have g1 := Int.emod_nonneg a (b := b) (by omega)
    have g2 := Int.emod_lt_of_pos a (b := b) (by omega)
    have e2 : md a b = a % b := by unfold md; rw [if_neg hs]
    rw [e2]
    by_cases hn : Int.tmod a b < 0
    · obtain ⟨c1, c2, c3⟩ := c.1 hn
      rw [if_neg (by omega), decide_eq_true hn, decide_eq_false hs, if_pos (by simp), w64 (by omega) (by omega)]
      congr 2; omega
    · obtain ⟨c1, c2⟩ := c.2 hn
      rw [c2]
      by_cases hz : a % b = 0
      · rw [if_pos hz]
      · rw [if_neg hz, decide_eq_false (show ¬ a % b < 0 by omega), decide_eq_false hs, if_neg (by simp)]
theorem fl_pos {a b : Int} (h : 0 < b) : fl a b = a / b := by unfold fl; rw [if_neg (by omega)]
theorem md_pos {a b : Int} (h : 0 < b) : md a b = a % b := by unfold md; rw [if_neg (by omega)]
theorem split_eq (k : Nat) (us : Int) (h : I64 us) : num_Split.f (k + 1) us = some (us / 86400000000, us % 86400000000) := by
  unfold num_Split.f
  have hc : I64 86400000000 := by unfold I64; omega
  rw [div_eq k us 86400000000 h hc (by omega), mod_eq us 86400000000 h hc (by omega), fl_pos (by omega), md_pos (by omega), out_in (ediv_i64 h (by omega))]
  rfl
end Go.Proofs.YthkmckmfgglafaaGreat.Civ
namespace Go.Proofs.YthkmckmfgglafaaGreat.Civ
set_option linter.unusedVariables false
set_option linter.unusedSimpArgs false
open Go.RowKit Go.Proofs.YthkmckmfgglafaaGreatW.PrintWords Go.Proofs.YthkmckmfgglafaaGreatW.PrintLast Go.Proofs.YthkmckmfgglafaaGreatW.PrintMore Go.Proofs.YthkmckmfgglafaaGreat.P
/-- A day from the year -4712 to 294276. -/
def DIn (n : Int) : Prop := -2451507 ≤ n ∧ n ≤ 106751982
instance (n : Int) : Decidable (DIn n) := inferInstanceAs (Decidable (_ ∧ _))
theorem dby_lo : dby (-4712) = -2451507 := by decide
theorem dby_hi : dby 294277 = 106751983 := by decide
theorem din_year {n y m d : Int} (h : IsDate n y m d) : (-4712 ≤ y ∧ y ≤ 294276) ↔ DIn n := by
  have g := h.year
  have a := dby_lo
  have b := dby_hi
  unfold DIn
  constructor
  · intro f
    have p := dby_far (-4712) y (by omega)
    have q := dby_far (y + 1) 294277 (by omega)
    omega
  · intro f
    constructor
    · rcases Int.lt_or_le y (-4712) with z | z
      · have p := dby_far (y + 1) (-4712) (by omega)
        omega
      · exact z
    · rcases Int.lt_or_le 294276 y with z | z
      · have p := dby_far 294277 y (by omega)
        omega
      · exact z
theorem din_can {n : Int} (h : DIn n) : CanDay n := by unfold DIn at h; unfold CanDay; omega
theorem inside_eq (n : Int) : day_inside.f n = some (decide (DIn n)) := by
  unfold day_inside.f
  by_cases hc : CanDay n
  · obtain ⟨y, m, d, h⟩ := date_of n
    rw [date_eq h hc]
    have e := din_year h
    simp only [Option.bind_some, if_true]
    by_cases g : y ≥ -4712
    · rw [if_pos g]; congr 1; apply decide_eq_decide.2; rw [← e]; omega
    · rw [if_neg g, decide_eq_false]; rw [← e]; omega
  · rw [date_no hc]
    simp only [Option.bind_some]
    rw [if_neg (by decide), decide_eq_false (fun f => hc (din_can f))]
/-- A stamp that can be. -/
def DRS (i u : Int) : Prop := (i = 0 ∧ DIn (u / 86400000000)) ∨ ((i = -1 ∨ i = 1) ∧ u = 0)
instance (i u : Int) : Decidable (DRS i u) := inferInstanceAs (Decidable (_ ∨ _))
theorem drs_fin {u : Int} : DRS 0 u ↔ DIn (u / 86400000000) := by unfold DRS DIn; omega
theorem drightS_ev (i u : Int) (hu : I64 u) : Ev (fun k => day_RightStamp.f k i u) (decide (DRS i u)) := by
  unfold day_RightStamp.f
  refine Ev.bind (Ev.at1 fun k => split_eq k u hu) ?_
  simp only [Bool.and_eq_true, beq_iff_eq]
  by_cases h1 : i = -1 ∧ u = 0
  · exact Ev.pos h1 (Ev.cast (Ev.now _) (decide_eq_true (show DRS i u from .inr ⟨.inl h1.1, h1.2⟩)).symm)
  · refine Ev.neg h1 ?_
    by_cases h2 : i = 1 ∧ u = 0
    · exact Ev.pos h2 (Ev.cast (Ev.now _) (decide_eq_true (show DRS i u from .inr ⟨.inr h2.1, h2.2⟩)).symm)
    · refine Ev.neg h2 ?_
      by_cases h3 : i = 0
      · subst h3
        refine Ev.pos rfl (Ev.bind0 (inside_eq _) (Ev.cast (Ev.now _) ?_))
        exact decide_eq_decide.2 drs_fin.symm
      · refine Ev.neg h3 (Ev.cast (Ev.now _) ?_)
        rw [decide_eq_false (show ¬ DRS i u by unfold DRS; omega)]
end Go.Proofs.YthkmckmfgglafaaGreat.Civ
