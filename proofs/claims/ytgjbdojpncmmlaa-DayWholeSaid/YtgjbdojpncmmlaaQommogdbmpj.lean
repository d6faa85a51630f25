-- Written by a program of the session (a print of the seat's translation, functions given by hand among it). Lean checks it.
import Derived.Test.YtgjbdojpncmmlaaQkegnhodiek
import Derived.Test.YtgjbdojpncmmlaaQiggofddhfp
import Derived.Test.YtgjbdojpncmmlaaQdbmconcjmc
import Derived.Test.YtgjbdojpncmmlaaQdnmhamlpil
import Derived.Test.YtgjbdojpncmmlaaQajhbgdeegc
namespace Go.Proofs.Ytgjbdojpncmmlaa.P
open Go.RowKit Go.Proofs.YtgjbdojpncmmlaaW.PrintWords Go.Proofs.YtgjbdojpncmmlaaW.PrintLast Go.Proofs.YtgjbdojpncmmlaaW.PrintMore
attribute [local go_sem] max2_int min2_int max_two min_two max_three min_three max_four min_four   -- for this text's walks alone
set_option linter.unusedVariables false
set_option linter.unusedSimpArgs false
def computusref01_Over.j0 : Nat → List Int → Bool → Bool → List Int → Bool → List Int → Option (Bool × List Int)
  | 0, _, _, _, _, _, _ => none
  | k + 1, x5, x24, x539000, x539001, x540000, x540001 => if x24 = true then ((computusref01_Of.f 1).bind fun bt548 => ((computusref01_add.f k x5 bt548.2).bind fun t552 => (if (x539000 != x540000) = true then ((computusref01_zero.f k t552).bind fun t555 => (some (!t555, t552))) else (some (false, t552))))) else (if (x539000 != x540000) = true then ((computusref01_zero.f k x5).bind fun t556 => (some (!t556, x5))) else (some (false, x5)))
def computusref01_Over.f (k : Nat) (a0_0 : Bool) (l0_1 : List Int) (a1_0 : Bool) (l1_1 : List Int) : Option (Bool × List Int) := (computusref01_divide.f k l0_1 l1_1).bind fun bt541 => (if (a0_0 != a1_0) = true then ((computusref01_zero.f k bt541.2).bind fun t547 => (computusref01_Over.j0 k bt541.1 (!t547) a0_0 l0_1 a1_0 l1_1)) else (computusref01_Over.j0 k bt541.1 false a0_0 l0_1 a1_0 l1_1))
set_option maxHeartbeats 8000000 in
set_option maxRecDepth 100000 in
theorem computusref01_Over.calls (k : Nat) (a0_0 : Bool) (A0_1 : Option Addr) (c0_1 : Nat) (l0_1 : List Int) (a1_0 : Bool) (A1_1 : Option Addr) (c1_1 : Nat) (l1_1 : List Int) (r1 : Bool) (r2 : List Int) (w : World) (hr0_1 : Kd.C (Kd.int .u64) w A0_1 l0_1.length l0_1) (hc0_1 : l0_1.length ≤ c0_1) (hr1_1 : Kd.C (Kd.int .u64) w A1_1 l1_1.length l1_1) (hc1_1 : l1_1.length ≤ c1_1) (h : computusref01_Over.f k a0_0 l0_1 a1_0 l1_1 = some (r1, r2)) :
    Calls Try.prog 90 #[.agg #[.bool a0_0, .slice A0_1 l0_1.length c0_1], .agg #[.bool a1_0, .slice A1_1 l1_1.length c1_1]] w fun e w' => ∃ v1_ : Value, e = .returned (.agg #[.bool r1, v1_]) ∧ Kd.R (Kd.int .u64) 75 w' w.heap.size (fun _ => True) v1_ r2 ∧ Below w.heap.size w w' := by
  have hu70 := Try.underlying70
  have hfd70_1 : ∀ (y0_ y1_ : Value) (W : World), (Instr.field 70 (.agg #[y0_, y1_]) 1).run Try.prog W = .ok (y1_) W := fun y0_ y1_ W => by rfl
  have HR0_1 := Aside0.mk hr0_1
  have HC0_1 := Aside0.mk hc0_1
  clear hr0_1 hc0_1
  have HR1_1 := Aside0.mk hr1_1
  have HC1_1 := Aside0.mk hc1_1
  clear hr1_1 hc1_1
  have HB := Aside0.mk (Below.refl w.heap.size w)
  have H : ((computusref01_divide.f k l0_1 l1_1).bind fun bt541 => (if (a0_0 != a1_0) = true then ((computusref01_zero.f k bt541.2).bind fun t547 => (computusref01_Over.j0 k bt541.1 (!t547) a0_0 l0_1 a1_0 l1_1)) else (computusref01_Over.j0 k bt541.1 false a0_0 l0_1 a1_0 l1_1))) = some (r1, r2) := h
  clear h
  replace H := Option.bind_eq_some_iff.mp H
  obtain ⟨⟨t541, t542⟩, A30, H⟩ := H
  replace H : (if (a0_0 != a1_0) = true then ((computusref01_zero.f k t542).bind fun t547 => (computusref01_Over.j0 k t541 (!t547) a0_0 l0_1 a1_0 l1_1)) else (computusref01_Over.j0 k t541 false a0_0 l0_1 a1_0 l1_1)) = some (r1, r2) := H
  have A3 := Aside0.mk A30
  clear A30
  have HC4 := Aside0.mk H
  clear H
  go_enter Try.func90, Try.ntmps90
  go_upto_region 2 with (first | ((with_reducible refine kP (N := 2) rfl ?_); refine kN ?hg (N := 2) ?hd (cs := #[.bool a0_0, .slice A0_1 l0_1.length c0_1]) (t := 70) ?hr ?_; (case hd => rfl); (case hg => rfl); (case hr => first | (go_simp; done) | (go_simp; rfl)); intro gb538 hg w5 hbox hb; have n0_ := Aside0.mk (kK (by repeat (first | (with_reducible first | exact HB.out | apply kC | apply kA | apply kB) | exact HB.out)) hb); have n1_ := Aside0.mk (hbox); have n2_ := Aside0.mk ((by rw [hg]; exact (kJ (by repeat (first | (with_reducible first | exact HB.out | apply kC | apply kA | apply kB) | exact HB.out))) : w.heap.size ≤ gb538)); have n3_ := Aside0.mk ((by rw [hg]; exact (kJ (by repeat (first | (with_reducible first | exact HB.out | apply kC | apply kA | apply kB) | exact HB.out))) : w.heap.size ≤ gb538)); clear HB; have HB := n0_; have BK538 := n1_; have GW538 := n2_; have GE538 := n3_; clear n0_ n1_ n2_ n3_; clear hb hbox hg) | ((with_reducible refine kP (N := 3) rfl ?_); refine kN ?hg (N := 3) ?hd (cs := #[.bool a1_0, .slice A1_1 l1_1.length c1_1]) (t := 70) ?hr ?_; (case hd => rfl); (case hg => rfl); (case hr => first | (go_simp; done) | (go_simp; rfl)); intro gb539 hg w6 hbox hb; have n0_ := Aside0.mk (kM (g := gb538) (o := .cells #[.bool a0_0, .slice A0_1 l0_1.length c0_1] 70 (0, 0)) (by (with_reducible repeat (first | refine kE ?_ _ | refine kG ?_ | refine kF ?_ _)); exact BK538.out) hb); have n1_ := Aside0.mk (kK (by repeat (first | (with_reducible first | exact HB.out | apply kC | apply kA | apply kB | refine kD ?_ GE538.out) | exact HB.out)) hb); have n2_ := Aside0.mk (hbox); have n3_ := Aside0.mk ((by rw [hg]; exact (kJ (by repeat (first | (with_reducible first | exact HB.out | apply kC | apply kA | apply kB | refine kD ?_ GE538.out) | exact HB.out))) : w.heap.size ≤ gb539)); have n4_ := Aside0.mk ((by rw [hg]; exact (kJ (by repeat (first | (with_reducible first | exact HB.out | apply kC | apply kA | apply kB | refine kD ?_ GE538.out) | exact HB.out))) : w.heap.size ≤ gb539)); have n5_ := Aside0.mk ((by rw [hg]; exact Nat.ne_of_lt (kQ (g := gb538) (o := .cells #[.bool a0_0, .slice A0_1 l0_1.length c0_1] 70 (0, 0)) (by (with_reducible repeat (first | refine kE ?_ _ | refine kG ?_ | refine kF ?_ _)); exact BK538.out)) : gb538 ≠ gb539)); have n6_ := Aside0.mk ((by rw [hg]; exact Nat.ne_of_gt (kQ (g := gb538) (o := .cells #[.bool a0_0, .slice A0_1 l0_1.length c0_1] 70 (0, 0)) (by (with_reducible repeat (first | refine kE ?_ _ | refine kG ?_ | refine kF ?_ _)); exact BK538.out)) : gb539 ≠ gb538)); clear BK538; clear HB; have BK538 := n0_; have HB := n1_; have BK539 := n2_; have GW539 := n3_; have GE539 := n4_; have NB538_539 := n5_; have NB539_538 := n6_; clear n0_ n1_ n2_ n3_ n4_ n5_ n6_; clear hb hbox hg) | ((with_reducible refine kP (N := 4) rfl ?_); refine kN ?hg (N := 4) ?hd (cs := #[.bool false, .slice none 0 0]) (t := 70) ?hr ?_; (case hd => rfl); (case hg => rfl); (case hr => first | (go_simp; done) | (go_simp; rfl)); intro gb540 hg w7 hbox hb; have n0_ := Aside0.mk (kM (g := gb538) (o := .cells #[.bool a0_0, .slice A0_1 l0_1.length c0_1] 70 (0, 0)) (by (with_reducible repeat (first | refine kE ?_ _ | refine kG ?_ | refine kF ?_ _)); exact BK538.out) hb); have n1_ := Aside0.mk (kM (g := gb539) (o := .cells #[.bool a1_0, .slice A1_1 l1_1.length c1_1] 70 (0, 0)) (by (with_reducible repeat (first | refine kE ?_ _ | refine kG ?_ | refine kF ?_ _)); exact BK539.out) hb); have n2_ := Aside0.mk (kK (by repeat (first | (with_reducible first | exact HB.out | apply kC | apply kA | apply kB | refine kD ?_ GE538.out | refine kD ?_ GE539.out) | exact HB.out)) hb); have n3_ := Aside0.mk (hbox); have n4_ := Aside0.mk ((by rw [hg]; exact (kJ (by repeat (first | (with_reducible first | exact HB.out | apply kC | apply kA | apply kB | refine kD ?_ GE538.out | refine kD ?_ GE539.out) | exact HB.out))) : w.heap.size ≤ gb540)); have n5_ := Aside0.mk ((by rw [hg]; exact (kJ (by repeat (first | (with_reducible first | exact HB.out | apply kC | apply kA | apply kB | refine kD ?_ GE538.out | refine kD ?_ GE539.out) | exact HB.out))) : w.heap.size ≤ gb540)); have n6_ := Aside0.mk ((by rw [hg]; exact Nat.ne_of_lt (kQ (g := gb538) (o := .cells #[.bool a0_0, .slice A0_1 l0_1.length c0_1] 70 (0, 0)) (by (with_reducible repeat (first | refine kE ?_ _ | refine kG ?_ | refine kF ?_ _)); exact BK538.out)) : gb538 ≠ gb540)); have n7_ := Aside0.mk ((by rw [hg]; exact Nat.ne_of_gt (kQ (g := gb538) (o := .cells #[.bool a0_0, .slice A0_1 l0_1.length c0_1] 70 (0, 0)) (by (with_reducible repeat (first | refine kE ?_ _ | refine kG ?_ | refine kF ?_ _)); exact BK538.out)) : gb540 ≠ gb538)); have n8_ := Aside0.mk ((by rw [hg]; exact Nat.ne_of_lt (kQ (g := gb539) (o := .cells #[.bool a1_0, .slice A1_1 l1_1.length c1_1] 70 (0, 0)) (by (with_reducible repeat (first | refine kE ?_ _ | refine kG ?_ | refine kF ?_ _)); exact BK539.out)) : gb539 ≠ gb540)); have n9_ := Aside0.mk ((by rw [hg]; exact Nat.ne_of_gt (kQ (g := gb539) (o := .cells #[.bool a1_0, .slice A1_1 l1_1.length c1_1] 70 (0, 0)) (by (with_reducible repeat (first | refine kE ?_ _ | refine kG ?_ | refine kF ?_ _)); exact BK539.out)) : gb540 ≠ gb539)); clear BK538; clear BK539; clear HB; have BK538 := n0_; have BK539 := n1_; have HB := n2_; have BK540 := n3_; have GW540 := n4_; have GE540 := n5_; have NB538_540 := n6_; have NB540_538 := n7_; have NB539_540 := n8_; have NB540_539 := n9_; clear n0_ n1_ n2_ n3_ n4_ n5_ n6_ n7_ n8_ n9_; clear hb hbox hg; have hnb8 := NB538_539.out; have hnc8 := NB539_538.out; have hnb9 := NB538_540.out; have hnc9 := NB540_538.out; have hcz10_0 : w7.cell? ⟨gb538, 0, none⟩ = some (.bool a0_0) := (kI BK538.out 0).trans rfl; have hcz10_1 : w7.cell? ⟨gb538, 1, none⟩ = some (.slice A0_1 l0_1.length c0_1) := (kI BK538.out 1).trans rfl; have hfz10_0 := kH BK538.out 0; have hfz10_1 := kH BK538.out 1; have hnb11 := NB539_540.out; have hnc11 := NB540_539.out; have hcz12_0 : w7.cell? ⟨gb539, 0, none⟩ = some (.bool a1_0) := (kI BK539.out 0).trans rfl; have hcz12_1 : w7.cell? ⟨gb539, 1, none⟩ = some (.slice A1_1 l1_1.length c1_1) := (kI BK539.out 1).trans rfl; have hfz12_0 := kH BK539.out 0; have hfz12_1 := kH BK539.out 1) | ((with_reducible refine kL (f := 95) rfl ?_); refine kO (some 12) rfl rfl Try.func95 (by kernel_rfl) rfl #[.slice A0_1 l0_1.length c0_1, .slice A1_1 l1_1.length c1_1] rfl (by (try simp only [List.map_toArray, List.map_cons, List.map_nil]); first | done | rfl | (simp only [List.length_drop, List.length_take]; rfl)) ?_; (with_reducible refine (computusref01_divide.calls k _ _ l0_1 _ _ l1_1 t541 t542 _ ?side1 ?side2 ?side3 ?side4 A3.out).mono ?_); (case side1 => repeat (first | exact (Kd.C_below HR0_1.out HB.out) | (with_reducible refine Kd.C_alloc ?_ _) | (with_reducible refine Kd.C_drewN ?_ _) | (with_reducible refine Kd.C_drew ?_))); (case side2 => exact HC0_1.out); (case side3 => repeat (first | exact (Kd.C_below HR1_1.out HB.out) | (with_reducible refine Kd.C_alloc ?_ _) | (with_reducible refine Kd.C_drewN ?_ _) | (with_reducible refine Kd.C_drew ?_))); (case side4 => exact HC1_1.out); rintro e w13 ⟨v543, v545, rfl, ho0, ho1, hb⟩; refine ⟨_, rfl, ?_⟩; have n0_ := Aside0.mk (Kd.R_lower ho0 (kJ (by repeat (first | (with_reducible first | exact HB.out | apply kC | apply kA | apply kB | refine kD ?_ GE538.out | refine kD ?_ GE539.out | refine kD ?_ GE540.out) | exact HB.out)))); have n1_ := Aside0.mk (Kd.R_lower ho1 (kJ (by repeat (first | (with_reducible first | exact HB.out | apply kC | apply kA | apply kB | refine kD ?_ GE538.out | refine kD ?_ GE539.out | refine kD ?_ GE540.out) | exact HB.out)))); have n2_ := Aside0.mk (kM (g := gb538) (o := .cells #[.bool a0_0, .slice A0_1 l0_1.length c0_1] 70 (0, 0)) (by (with_reducible repeat (first | refine kE ?_ _ | refine kG ?_ | refine kF ?_ _)); exact BK538.out) hb); have n3_ := Aside0.mk (kM (g := gb539) (o := .cells #[.bool a1_0, .slice A1_1 l1_1.length c1_1] 70 (0, 0)) (by (with_reducible repeat (first | refine kE ?_ _ | refine kG ?_ | refine kF ?_ _)); exact BK539.out) hb); have n4_ := Aside0.mk (kM (g := gb540) (o := .cells #[.bool false, .slice none 0 0] 70 (0, 0)) (by (with_reducible repeat (first | refine kE ?_ _ | refine kG ?_ | refine kF ?_ _)); exact BK540.out) hb); have n5_ := Aside0.mk (kK (by repeat (first | (with_reducible first | exact HB.out | apply kC | apply kA | apply kB | refine kD ?_ GE538.out | refine kD ?_ GE539.out | refine kD ?_ GE540.out) | exact HB.out)) hb); clear BK538; clear BK539; clear BK540; clear HB; have HO544 := n0_; have HO546 := n1_; have BK538 := n2_; have BK539 := n3_; have BK540 := n4_; have HB := n5_; clear n0_ n1_ n2_ n3_ n4_ n5_; (try clear hb); (try clear hb2); (try clear hk); (try clear hi); (try clear ho0); (try clear ho1)))
  (try simp only [Act.put, List.setIfInBounds_toArray, List.set_cons_zero, List.set_cons_succ])
  go_cut [24] (fun v24 wc => ∃ (kq : Nat) (x24_3 : Bool), v24 = .bool x24_3 ∧ Aside0 (computusref01_Over.j0 kq t541 x24_3 a0_0 l0_1 a1_0 l1_1 = some (r1, r2)) ∧ Aside0 (kq ≤ k) ∧ Aside0 (Kd.R (Kd.int .u64) 75 wc w.heap.size (fun _ => True) v543 t541) ∧ Aside0 (wc.heap[gb538]? = some (.cells #[.bool a0_0, (.slice A0_1 l0_1.length c0_1)] 70 (0, 0))) ∧ Aside0 (wc.heap[gb539]? = some (.cells #[.bool a1_0, (.slice A1_1 l1_1.length c1_1)] 70 (0, 0))) ∧ Aside0 (wc.heap[gb540]? = some (.cells #[.bool false, (.slice none 0 0)] 70 (0, 0))) ∧ Aside0 (Below w.heap.size w wc))
  case first =>
    have H := HC4.out
    clear HC4
    by_cases c14 : (a0_0 != a1_0) = true
    · rw [if_pos c14] at H
      have c14b0 : (a0_0 != a1_0) = true := c14
      (try (have c14b1 : decide (a0_0 = a1_0) = false := by simpa using c14))
      (try (have c14b2 : (a0_0 == a1_0) = false := by simpa using c14))
      (try (have c14b3 : ¬ (a0_0 = a1_0) := by simpa using c14))
      clear c14
      (first | rw [c14b0] | (simp only [kS, kT]; rw [c14b0]) | skip)
      replace H := Option.bind_eq_some_iff.mp H
      obtain ⟨t547, A150, H⟩ := H
      replace H : (computusref01_Over.j0 k t541 (!t547) a0_0 l0_1 a1_0 l1_1) = some (r1, r2) := H
      have A15 := Aside0.mk A150
      clear A150
      have H' := Aside0.mk H
      clear H
      have hnb16 := NB538_539.out
      have hnc16 := NB539_538.out
      have hnb17 := NB538_540.out
      have hnc17 := NB540_538.out
      have hcz18_0 : w13.cell? ⟨gb538, 0, none⟩ = some (.bool a0_0) := (kI BK538.out 0).trans rfl
      have hcz18_1 : w13.cell? ⟨gb538, 1, none⟩ = some (.slice A0_1 l0_1.length c0_1) := (kI BK538.out 1).trans rfl
      have hfz18_0 := kH BK538.out 0
      have hfz18_1 := kH BK538.out 1
      have hnb19 := NB539_540.out
      have hnc19 := NB540_539.out
      have hcz20_0 : w13.cell? ⟨gb539, 0, none⟩ = some (.bool a1_0) := (kI BK539.out 0).trans rfl
      have hcz20_1 : w13.cell? ⟨gb539, 1, none⟩ = some (.slice A1_1 l1_1.length c1_1) := (kI BK539.out 1).trans rfl
      have hfz20_0 := kH BK539.out 0
      have hfz20_1 := kH BK539.out 1
      obtain ⟨Ao21, co21, eo21⟩ := Kd.R_slice HO546.out
      subst eo21
      go_wp2_with (first | (go_at_call 96; (with_reducible refine (computusref01_zero.calls k _ _ t542 t547 _ ?side1 ?side2 A15.out).mono ?_); (case side1 => repeat (first | exact (Kd.R_reads' HO546.out).2.2 | (with_reducible refine Kd.C_alloc ?_ _) | (with_reducible refine Kd.C_drewN ?_ _) | (with_reducible refine Kd.C_drew ?_))); (case side2 => exact (Kd.R_reads' HO546.out).2.1); rintro e w22 ⟨rfl, hb⟩; have n0_ := Aside0.mk (Kd.R_below (by (with_reducible repeat (first | apply Kd.R_alloc | apply Kd.R_drewN | apply Kd.R_drew)); exact HO544.out) hb); have n1_ := Aside0.mk (Kd.R_below (by (with_reducible repeat (first | apply Kd.R_alloc | apply Kd.R_drewN | apply Kd.R_drew)); exact HO546.out) hb); have n2_ := Aside0.mk (kM (g := gb538) (o := .cells #[.bool a0_0, .slice A0_1 l0_1.length c0_1] 70 (0, 0)) (by (with_reducible repeat (first | refine kE ?_ _ | refine kG ?_ | refine kF ?_ _)); exact BK538.out) hb); have n3_ := Aside0.mk (kM (g := gb539) (o := .cells #[.bool a1_0, .slice A1_1 l1_1.length c1_1] 70 (0, 0)) (by (with_reducible repeat (first | refine kE ?_ _ | refine kG ?_ | refine kF ?_ _)); exact BK539.out) hb); have n4_ := Aside0.mk (kM (g := gb540) (o := .cells #[.bool false, .slice none 0 0] 70 (0, 0)) (by (with_reducible repeat (first | refine kE ?_ _ | refine kG ?_ | refine kF ?_ _)); exact BK540.out) hb); have n5_ := Aside0.mk (kK (by repeat (first | (with_reducible first | exact HB.out | apply kC | apply kA | apply kB | refine kD ?_ GE538.out | refine kD ?_ GE539.out | refine kD ?_ GE540.out) | exact HB.out)) hb); clear HO544; clear HO546; clear BK538; clear BK539; clear BK540; clear HB; have HO544 := n0_; have HO546 := n1_; have BK538 := n2_; have BK539 := n3_; have BK540 := n4_; have HB := n5_; clear n0_ n1_ n2_ n3_ n4_ n5_; (try clear hb); (try clear hb2); (try clear hk); (try clear hi)))
      go_meet
      case rel => exact ⟨_, (!t547), (by first | rfl | (simp; done) | (simp [*]; done)), H', ⟨by first | omega | exact Nat.le_refl _⟩, ⟨by (with_reducible repeat (first | apply Kd.R_alloc | apply Kd.R_drewN | apply Kd.R_drew)); exact Kd.R_mono HO544.out (fun _ hk => trivial)⟩, ⟨by (with_reducible repeat (first | refine kE ?_ _ | refine kG ?_ | refine kF ?_ _)); exact BK538.out⟩, ⟨by (with_reducible repeat (first | refine kE ?_ _ | refine kG ?_ | refine kF ?_ _)); exact BK539.out⟩, ⟨by (with_reducible repeat (first | refine kE ?_ _ | refine kG ?_ | refine kF ?_ _)); exact BK540.out⟩, ⟨by repeat (first | (with_reducible first | exact HB.out | apply kC | apply kA | apply kB | refine kD ?_ GE538.out | refine kD ?_ GE539.out | refine kD ?_ GE540.out) | exact HB.out)⟩⟩
    · rw [if_neg c14] at H
      have c14b0 : (a0_0 != a1_0) = false := by simpa using c14
      (try (have c14b1 : decide (a0_0 = a1_0) = true := by simpa using c14))
      (try (have c14b2 : (a0_0 == a1_0) = true := by simpa using c14))
      clear c14
      (first | rw [c14b0] | (simp only [kS, kT]; rw [c14b0]) | skip)
      have H' := Aside0.mk H
      clear H
      have hnb23 := NB538_539.out
      have hnc23 := NB539_538.out
      have hnb24 := NB538_540.out
      have hnc24 := NB540_538.out
      have hcz25_0 : w13.cell? ⟨gb538, 0, none⟩ = some (.bool a0_0) := (kI BK538.out 0).trans rfl
      have hcz25_1 : w13.cell? ⟨gb538, 1, none⟩ = some (.slice A0_1 l0_1.length c0_1) := (kI BK538.out 1).trans rfl
      have hfz25_0 := kH BK538.out 0
      have hfz25_1 := kH BK538.out 1
      have hnb26 := NB539_540.out
      have hnc26 := NB540_539.out
      have hcz27_0 : w13.cell? ⟨gb539, 0, none⟩ = some (.bool a1_0) := (kI BK539.out 0).trans rfl
      have hcz27_1 : w13.cell? ⟨gb539, 1, none⟩ = some (.slice A1_1 l1_1.length c1_1) := (kI BK539.out 1).trans rfl
      have hfz27_0 := kH BK539.out 0
      have hfz27_1 := kH BK539.out 1
      go_wp2
      go_meet
      case rel => exact ⟨_, (false), (by first | rfl | (simp; done) | (simp [*]; done)), H', ⟨by first | omega | exact Nat.le_refl _⟩, ⟨by (with_reducible repeat (first | apply Kd.R_alloc | apply Kd.R_drewN | apply Kd.R_drew)); exact Kd.R_mono HO544.out (fun _ hk => trivial)⟩, ⟨by (with_reducible repeat (first | refine kE ?_ _ | refine kG ?_ | refine kF ?_ _)); exact BK538.out⟩, ⟨by (with_reducible repeat (first | refine kE ?_ _ | refine kG ?_ | refine kF ?_ _)); exact BK539.out⟩, ⟨by (with_reducible repeat (first | refine kE ?_ _ | refine kG ?_ | refine kF ?_ _)); exact BK540.out⟩, ⟨by repeat (first | (with_reducible first | exact HB.out | apply kC | apply kA | apply kB | refine kD ?_ GE538.out | refine kD ?_ GE539.out | refine kD ?_ GE540.out) | exact HB.out)⟩⟩
  case rest =>
    clear HC4
    try clear c1
    try clear c2
    try clear p2
    try clear c8
    try clear c9
    try clear c11
    try clear c14
    try clear c14b0
    try clear c14b1
    try clear c14b2
    try clear c16
    try clear c17
    try clear c19
    try clear c23
    try clear c24
    try clear c26
    try clear hcz10_0
    try clear hcz10_1
    try clear hcz12_0
    try clear hcz12_1
    try clear hcz18_0
    try clear hcz18_1
    try clear hcz20_0
    try clear hcz20_1
    try clear hcz25_0
    try clear hcz25_1
    try clear hcz27_0
    try clear hcz27_1
    try clear hfz10_0
    try clear hfz10_1
    try clear hfz12_0
    try clear hfz12_1
    try clear hfz18_0
    try clear hfz18_1
    try clear hfz20_0
    try clear hfz20_1
    try clear hfz25_0
    try clear hfz25_1
    try clear hfz27_0
    try clear hfz27_1
    obtain ⟨kq, x24_3, rfl, HA, HJ3, HO_5, BK538, BK539, BK540, HB⟩ := hcut
    cases kq with
    | zero => exact absurd HA.out (by simp [computusref01_Over.j0])
    | succ kj3 =>
      have H := HA.out
      clear HA
      simp only [computusref01_Over.j0] at H
      by_cases c28 : x24_3 = true
      · subst c28
        have H1 : ((computusref01_Of.f 1).bind fun bt548 => ((computusref01_add.f kj3 t541 bt548.2).bind fun t552 => (if (a0_0 != a1_0) = true then ((computusref01_zero.f kj3 t552).bind fun t555 => (some (!t555, t552))) else (some (false, t552))))) = some (r1, r2) := by rw [if_pos rfl] at H; exact H
        clear H
        have H := H1
        clear H1
        replace H := Option.bind_eq_some_iff.mp H
        obtain ⟨⟨t548, t549⟩, A290, H⟩ := H
        replace H : ((computusref01_add.f kj3 t541 t549).bind fun t552 => (if (a0_0 != a1_0) = true then ((computusref01_zero.f kj3 t552).bind fun t555 => (some (!t555, t552))) else (some (false, t552)))) = some (r1, r2) := H
        have A29 := Aside0.mk A290
        clear A290
        replace H := Option.bind_eq_some_iff.mp H
        obtain ⟨t552, A300, H⟩ := H
        replace H : (if (a0_0 != a1_0) = true then ((computusref01_zero.f kj3 t552).bind fun t555 => (some (!t555, t552))) else (some (false, t552))) = some (r1, r2) := H
        have A30 := Aside0.mk A300
        clear A300
        by_cases c31 : (a0_0 != a1_0) = true
        · rw [if_pos c31] at H
          have c31b0 : (a0_0 != a1_0) = true := c31
          (try (have c31b1 : decide (a0_0 = a1_0) = false := by simpa using c31))
          (try (have c31b2 : (a0_0 == a1_0) = false := by simpa using c31))
          (try (have c31b3 : ¬ (a0_0 = a1_0) := by simpa using c31))
          clear c31
          replace H := Option.bind_eq_some_iff.mp H
          obtain ⟨t555, A320, H⟩ := H
          replace H : (some (!t555, t552)) = some (r1, r2) := H
          have A32 := Aside0.mk A320
          clear A320
          simp only [Option.some.injEq, Prod.mk.injEq] at H
          obtain ⟨rfl, rfl⟩ := H
          go_wp2_with (first | ((with_reducible refine kL (f := 71) rfl ?_); refine kO (some 26) rfl rfl Try.func71 (by kernel_rfl) rfl #[.int .i64 1] rfl (by (try simp only [List.map_toArray, List.map_cons, List.map_nil]); first | done | rfl | (simp only [List.length_drop, List.length_take]; rfl)) ?_; (with_reducible refine (computusref01_Of.calls 1 t548 t549 _ A29.out).mono ?_); rintro e w33 ⟨v550, rfl, ho0, hb⟩; refine ⟨_, rfl, ?_⟩; have n0_ := Aside0.mk (Kd.R_elder' (by (with_reducible repeat (first | apply Kd.R_alloc | apply Kd.R_drewN | apply Kd.R_drew)); exact HO_5.out) (Kd.R_base ho0) hb); have n1_ := Aside0.mk (Kd.R_lower (Kd.R_new' ho0 (Kd.R_lt (by (with_reducible repeat (first | apply Kd.R_alloc | apply Kd.R_drewN | apply Kd.R_drew)); exact HO_5.out))) (kJ (by repeat (first | (with_reducible first | exact HB.out | apply kC | apply kA | apply kB | refine kD ?_ GE538.out | refine kD ?_ GE539.out | refine kD ?_ GE540.out) | exact HB.out)))); have n2_ := Aside0.mk (kM (g := gb538) (o := .cells #[.bool a0_0, .slice A0_1 l0_1.length c0_1] 70 (0, 0)) (by (with_reducible repeat (first | refine kE ?_ _ | refine kG ?_ | refine kF ?_ _)); exact BK538.out) hb); have n3_ := Aside0.mk (kM (g := gb539) (o := .cells #[.bool a1_0, .slice A1_1 l1_1.length c1_1] 70 (0, 0)) (by (with_reducible repeat (first | refine kE ?_ _ | refine kG ?_ | refine kF ?_ _)); exact BK539.out) hb); have n4_ := Aside0.mk (kM (g := gb540) (o := .cells #[.bool false, .slice none 0 0] 70 (0, 0)) (by (with_reducible repeat (first | refine kE ?_ _ | refine kG ?_ | refine kF ?_ _)); exact BK540.out) hb); have n5_ := Aside0.mk (kK (by repeat (first | (with_reducible first | exact HB.out | apply kC | apply kA | apply kB | refine kD ?_ GE538.out | refine kD ?_ GE539.out | refine kD ?_ GE540.out) | exact HB.out)) hb); clear HO_5; clear BK538; clear BK539; clear BK540; clear HB; have HO_5 := n0_; have HO551 := n1_; have BK538 := n2_; have BK539 := n3_; have BK540 := n4_; have HB := n5_; clear n0_ n1_ n2_ n3_ n4_ n5_; (try clear hb); (try clear hb2); (try clear hk); (try clear hi); (try clear ho0); obtain ⟨Ao34, co34, eo34⟩ := Kd.R_slice HO_5.out; subst eo34; obtain ⟨Ao35, co35, eo35⟩ := Kd.R_slice HO551.out; subst eo35) | ((with_reducible refine kL (f := 84) rfl ?_); refine kO (some 28) rfl rfl Try.func84 (by kernel_rfl) rfl #[.slice Ao34 t541.length co34, .slice Ao35 t549.length co35] rfl (by (try simp only [List.map_toArray, List.map_cons, List.map_nil]); first | done | rfl | (simp only [List.length_drop, List.length_take]; rfl)) ?_; (with_reducible refine (computusref01_add.calls kj3 _ _ t541 _ _ t549 t552 _ ?side1 ?side2 ?side3 ?side4 A30.out).mono ?_); (case side1 => repeat (first | exact (Kd.R_reads' HO_5.out).2.2 | (with_reducible refine Kd.C_alloc ?_ _) | (with_reducible refine Kd.C_drewN ?_ _) | (with_reducible refine Kd.C_drew ?_))); (case side2 => exact (Kd.R_reads' HO_5.out).2.1); (case side3 => repeat (first | exact (Kd.R_reads' HO551.out).2.2 | (with_reducible refine Kd.C_alloc ?_ _) | (with_reducible refine Kd.C_drewN ?_ _) | (with_reducible refine Kd.C_drew ?_))); (case side4 => exact (Kd.R_reads' HO551.out).2.1); rintro e w36 ⟨v553, rfl, ho0, hb⟩; refine ⟨_, rfl, ?_⟩; have n0_ := Aside0.mk (Kd.R_elder' (by (with_reducible repeat (first | apply Kd.R_alloc | apply Kd.R_drewN | apply Kd.R_drew)); exact HO_5.out) (Kd.R_base ho0) hb); have n1_ := Aside0.mk (Kd.R_elder' (by (with_reducible repeat (first | apply Kd.R_alloc | apply Kd.R_drewN | apply Kd.R_drew)); exact HO551.out) (Kd.R_base ho0) hb); have n2_ := Aside0.mk (Kd.R_lower (Kd.R_new' (Kd.R_new' ho0 (Kd.R_lt (by (with_reducible repeat (first | apply Kd.R_alloc | apply Kd.R_drewN | apply Kd.R_drew)); exact HO_5.out))) (Kd.R_lt (by (with_reducible repeat (first | apply Kd.R_alloc | apply Kd.R_drewN | apply Kd.R_drew)); exact HO551.out))) (kJ (by repeat (first | (with_reducible first | exact HB.out | apply kC | apply kA | apply kB | refine kD ?_ GE538.out | refine kD ?_ GE539.out | refine kD ?_ GE540.out) | exact HB.out)))); have n3_ := Aside0.mk (kM (g := gb538) (o := .cells #[.bool a0_0, .slice A0_1 l0_1.length c0_1] 70 (0, 0)) (by (with_reducible repeat (first | refine kE ?_ _ | refine kG ?_ | refine kF ?_ _)); exact BK538.out) hb); have n4_ := Aside0.mk (kM (g := gb539) (o := .cells #[.bool a1_0, .slice A1_1 l1_1.length c1_1] 70 (0, 0)) (by (with_reducible repeat (first | refine kE ?_ _ | refine kG ?_ | refine kF ?_ _)); exact BK539.out) hb); have n5_ := Aside0.mk (kM (g := gb540) (o := .cells #[.bool false, .slice none 0 0] 70 (0, 0)) (by (with_reducible repeat (first | refine kE ?_ _ | refine kG ?_ | refine kF ?_ _)); exact BK540.out) hb); have n6_ := Aside0.mk (kK (by repeat (first | (with_reducible first | exact HB.out | apply kC | apply kA | apply kB | refine kD ?_ GE538.out | refine kD ?_ GE539.out | refine kD ?_ GE540.out) | exact HB.out)) hb); clear HO_5; clear HO551; clear BK538; clear BK539; clear BK540; clear HB; have HO_5 := n0_; have HO551 := n1_; have HO554 := n2_; have BK538 := n3_; have BK539 := n4_; have BK540 := n5_; have HB := n6_; clear n0_ n1_ n2_ n3_ n4_ n5_ n6_; (try clear hb); (try clear hb2); (try clear hk); (try clear hi); (try clear ho0); have hnb37 := NB538_539.out; have hnc37 := NB539_538.out; have hnb38 := NB538_540.out; have hnc38 := NB540_538.out; have hcz39_0 : w36.cell? ⟨gb538, 0, none⟩ = some (.bool a0_0) := (kI BK538.out 0).trans rfl; have hcz39_1 : w36.cell? ⟨gb538, 1, none⟩ = some (.slice A0_1 l0_1.length c0_1) := (kI BK538.out 1).trans rfl; have hfz39_0 := kH BK538.out 0; have hfz39_1 := kH BK538.out 1; have hnb40 := NB539_540.out; have hnc40 := NB540_539.out; have hcz41_0 : w36.cell? ⟨gb539, 0, none⟩ = some (.bool a1_0) := (kI BK539.out 0).trans rfl; have hcz41_1 : w36.cell? ⟨gb539, 1, none⟩ = some (.slice A1_1 l1_1.length c1_1) := (kI BK539.out 1).trans rfl; have hfz41_0 := kH BK539.out 0; have hfz41_1 := kH BK539.out 1; obtain ⟨Ao42, co42, eo42⟩ := Kd.R_slice HO554.out; subst eo42) | (go_at_call 96; (with_reducible refine (computusref01_zero.calls kj3 _ _ t552 t555 _ ?side1 ?side2 A32.out).mono ?_); (case side1 => repeat (first | exact (Kd.R_reads' HO554.out).2.2 | (with_reducible refine Kd.C_alloc ?_ _) | (with_reducible refine Kd.C_drewN ?_ _) | (with_reducible refine Kd.C_drew ?_))); (case side2 => exact (Kd.R_reads' HO554.out).2.1); rintro e w43 ⟨rfl, hb⟩; have n0_ := Aside0.mk (Kd.R_below (by (with_reducible repeat (first | apply Kd.R_alloc | apply Kd.R_drewN | apply Kd.R_drew)); exact HO_5.out) hb); have n1_ := Aside0.mk (Kd.R_below (by (with_reducible repeat (first | apply Kd.R_alloc | apply Kd.R_drewN | apply Kd.R_drew)); exact HO551.out) hb); have n2_ := Aside0.mk (Kd.R_below (by (with_reducible repeat (first | apply Kd.R_alloc | apply Kd.R_drewN | apply Kd.R_drew)); exact HO554.out) hb); have n3_ := Aside0.mk (kM (g := gb538) (o := .cells #[.bool a0_0, .slice A0_1 l0_1.length c0_1] 70 (0, 0)) (by (with_reducible repeat (first | refine kE ?_ _ | refine kG ?_ | refine kF ?_ _)); exact BK538.out) hb); have n4_ := Aside0.mk (kM (g := gb539) (o := .cells #[.bool a1_0, .slice A1_1 l1_1.length c1_1] 70 (0, 0)) (by (with_reducible repeat (first | refine kE ?_ _ | refine kG ?_ | refine kF ?_ _)); exact BK539.out) hb); have n5_ := Aside0.mk (kM (g := gb540) (o := .cells #[.bool false, .slice none 0 0] 70 (0, 0)) (by (with_reducible repeat (first | refine kE ?_ _ | refine kG ?_ | refine kF ?_ _)); exact BK540.out) hb); have n6_ := Aside0.mk (kK (by repeat (first | (with_reducible first | exact HB.out | apply kC | apply kA | apply kB | refine kD ?_ GE538.out | refine kD ?_ GE539.out | refine kD ?_ GE540.out) | exact HB.out)) hb); clear HO_5; clear HO551; clear HO554; clear BK538; clear BK539; clear BK540; clear HB; have HO_5 := n0_; have HO551 := n1_; have HO554 := n2_; have BK538 := n3_; have BK539 := n4_; have BK540 := n5_; have HB := n6_; clear n0_ n1_ n2_ n3_ n4_ n5_ n6_; (try clear hb); (try clear hb2); (try clear hk); (try clear hi); have hcz44_0 : w43.cell? ⟨gb540, 0, none⟩ = some (.bool false) := (kI BK540.out 0).trans rfl; have hcz44_1 : w43.cell? ⟨gb540, 1, none⟩ = some (.slice none 0 0) := (kI BK540.out 1).trans rfl; have hfz44_0 := kH BK540.out 0; have hfz44_1 := kH BK540.out 1))
          refine bodyPost_ret (results_cell_row rfl _ _ gb540 70 #[.bool (!t555), .slice Ao42 t552.length co42] (0, 0) _ rfl (by (with_reducible repeat (first | refine kE ?_ _ | refine kG ?_ | refine kF ?_ _)); refine kR (cs := #[.bool (!t555), .slice none 0 0]) ?_ 1 _ rfl; (with_reducible repeat (first | refine kE ?_ _ | refine kG ?_ | refine kF ?_ _)); refine kR (cs := #[.bool false, .slice none 0 0]) ?_ 0 _ rfl; (with_reducible repeat (first | refine kE ?_ _ | refine kG ?_ | refine kF ?_ _)); exact BK540.out) Try.underlying70 rfl (by kernel_rfl)) rfl ?_
          exact ⟨_, by first | rfl | (simp [errW_none, errW_some] <;> rfl) | (simp [*, errW_none, errW_some] <;> rfl), by (with_reducible repeat (first | apply Kd.R_alloc | apply Kd.R_drewN | apply Kd.R_drew)); exact Kd.R_mono (Kd.R_far (p := ⟨gb540, 1, none⟩) (Kd.R_far (p := ⟨gb540, 0, none⟩) (Kd.R_types HO554.out BK540.out (by decide)) (fun _ hk => hk.2) (.bool (!t555))) (fun _ hk => hk.2) (.slice Ao42 t552.length co42)) (fun _ hk => trivial), by repeat (first | (with_reducible first | exact HB.out | apply kC | apply kA | apply kB | refine kD ?_ GE538.out | refine kD ?_ GE539.out | refine kD ?_ GE540.out) | exact HB.out)⟩
        · rw [if_neg c31] at H
          have c31b0 : (a0_0 != a1_0) = false := by simpa using c31
          (try (have c31b1 : decide (a0_0 = a1_0) = true := by simpa using c31))
          (try (have c31b2 : (a0_0 == a1_0) = true := by simpa using c31))
          clear c31
          simp only [Option.some.injEq, Prod.mk.injEq] at H
          obtain ⟨rfl, rfl⟩ := H
          go_wp2_with (first | ((with_reducible refine kL (f := 71) rfl ?_); refine kO (some 26) rfl rfl Try.func71 (by kernel_rfl) rfl #[.int .i64 1] rfl (by (try simp only [List.map_toArray, List.map_cons, List.map_nil]); first | done | rfl | (simp only [List.length_drop, List.length_take]; rfl)) ?_; (with_reducible refine (computusref01_Of.calls 1 t548 t549 _ A29.out).mono ?_); rintro e w45 ⟨v550, rfl, ho0, hb⟩; refine ⟨_, rfl, ?_⟩; have n0_ := Aside0.mk (Kd.R_elder' (by (with_reducible repeat (first | apply Kd.R_alloc | apply Kd.R_drewN | apply Kd.R_drew)); exact HO_5.out) (Kd.R_base ho0) hb); have n1_ := Aside0.mk (Kd.R_lower (Kd.R_new' ho0 (Kd.R_lt (by (with_reducible repeat (first | apply Kd.R_alloc | apply Kd.R_drewN | apply Kd.R_drew)); exact HO_5.out))) (kJ (by repeat (first | (with_reducible first | exact HB.out | apply kC | apply kA | apply kB | refine kD ?_ GE538.out | refine kD ?_ GE539.out | refine kD ?_ GE540.out) | exact HB.out)))); have n2_ := Aside0.mk (kM (g := gb538) (o := .cells #[.bool a0_0, .slice A0_1 l0_1.length c0_1] 70 (0, 0)) (by (with_reducible repeat (first | refine kE ?_ _ | refine kG ?_ | refine kF ?_ _)); exact BK538.out) hb); have n3_ := Aside0.mk (kM (g := gb539) (o := .cells #[.bool a1_0, .slice A1_1 l1_1.length c1_1] 70 (0, 0)) (by (with_reducible repeat (first | refine kE ?_ _ | refine kG ?_ | refine kF ?_ _)); exact BK539.out) hb); have n4_ := Aside0.mk (kM (g := gb540) (o := .cells #[.bool false, .slice none 0 0] 70 (0, 0)) (by (with_reducible repeat (first | refine kE ?_ _ | refine kG ?_ | refine kF ?_ _)); exact BK540.out) hb); have n5_ := Aside0.mk (kK (by repeat (first | (with_reducible first | exact HB.out | apply kC | apply kA | apply kB | refine kD ?_ GE538.out | refine kD ?_ GE539.out | refine kD ?_ GE540.out) | exact HB.out)) hb); clear HO_5; clear BK538; clear BK539; clear BK540; clear HB; have HO_5 := n0_; have HO551 := n1_; have BK538 := n2_; have BK539 := n3_; have BK540 := n4_; have HB := n5_; clear n0_ n1_ n2_ n3_ n4_ n5_; (try clear hb); (try clear hb2); (try clear hk); (try clear hi); (try clear ho0); obtain ⟨Ao46, co46, eo46⟩ := Kd.R_slice HO_5.out; subst eo46; obtain ⟨Ao47, co47, eo47⟩ := Kd.R_slice HO551.out; subst eo47) | ((with_reducible refine kL (f := 84) rfl ?_); refine kO (some 28) rfl rfl Try.func84 (by kernel_rfl) rfl #[.slice Ao46 t541.length co46, .slice Ao47 t549.length co47] rfl (by (try simp only [List.map_toArray, List.map_cons, List.map_nil]); first | done | rfl | (simp only [List.length_drop, List.length_take]; rfl)) ?_; (with_reducible refine (computusref01_add.calls kj3 _ _ t541 _ _ t549 t552 _ ?side1 ?side2 ?side3 ?side4 A30.out).mono ?_); (case side1 => repeat (first | exact (Kd.R_reads' HO_5.out).2.2 | (with_reducible refine Kd.C_alloc ?_ _) | (with_reducible refine Kd.C_drewN ?_ _) | (with_reducible refine Kd.C_drew ?_))); (case side2 => exact (Kd.R_reads' HO_5.out).2.1); (case side3 => repeat (first | exact (Kd.R_reads' HO551.out).2.2 | (with_reducible refine Kd.C_alloc ?_ _) | (with_reducible refine Kd.C_drewN ?_ _) | (with_reducible refine Kd.C_drew ?_))); (case side4 => exact (Kd.R_reads' HO551.out).2.1); rintro e w48 ⟨v553, rfl, ho0, hb⟩; refine ⟨_, rfl, ?_⟩; have n0_ := Aside0.mk (Kd.R_elder' (by (with_reducible repeat (first | apply Kd.R_alloc | apply Kd.R_drewN | apply Kd.R_drew)); exact HO_5.out) (Kd.R_base ho0) hb); have n1_ := Aside0.mk (Kd.R_elder' (by (with_reducible repeat (first | apply Kd.R_alloc | apply Kd.R_drewN | apply Kd.R_drew)); exact HO551.out) (Kd.R_base ho0) hb); have n2_ := Aside0.mk (Kd.R_lower (Kd.R_new' (Kd.R_new' ho0 (Kd.R_lt (by (with_reducible repeat (first | apply Kd.R_alloc | apply Kd.R_drewN | apply Kd.R_drew)); exact HO_5.out))) (Kd.R_lt (by (with_reducible repeat (first | apply Kd.R_alloc | apply Kd.R_drewN | apply Kd.R_drew)); exact HO551.out))) (kJ (by repeat (first | (with_reducible first | exact HB.out | apply kC | apply kA | apply kB | refine kD ?_ GE538.out | refine kD ?_ GE539.out | refine kD ?_ GE540.out) | exact HB.out)))); have n3_ := Aside0.mk (kM (g := gb538) (o := .cells #[.bool a0_0, .slice A0_1 l0_1.length c0_1] 70 (0, 0)) (by (with_reducible repeat (first | refine kE ?_ _ | refine kG ?_ | refine kF ?_ _)); exact BK538.out) hb); have n4_ := Aside0.mk (kM (g := gb539) (o := .cells #[.bool a1_0, .slice A1_1 l1_1.length c1_1] 70 (0, 0)) (by (with_reducible repeat (first | refine kE ?_ _ | refine kG ?_ | refine kF ?_ _)); exact BK539.out) hb); have n5_ := Aside0.mk (kM (g := gb540) (o := .cells #[.bool false, .slice none 0 0] 70 (0, 0)) (by (with_reducible repeat (first | refine kE ?_ _ | refine kG ?_ | refine kF ?_ _)); exact BK540.out) hb); have n6_ := Aside0.mk (kK (by repeat (first | (with_reducible first | exact HB.out | apply kC | apply kA | apply kB | refine kD ?_ GE538.out | refine kD ?_ GE539.out | refine kD ?_ GE540.out) | exact HB.out)) hb); clear HO_5; clear HO551; clear BK538; clear BK539; clear BK540; clear HB; have HO_5 := n0_; have HO551 := n1_; have HO554 := n2_; have BK538 := n3_; have BK539 := n4_; have BK540 := n5_; have HB := n6_; clear n0_ n1_ n2_ n3_ n4_ n5_ n6_; (try clear hb); (try clear hb2); (try clear hk); (try clear hi); (try clear ho0); have hnb49 := NB538_539.out; have hnc49 := NB539_538.out; have hnb50 := NB538_540.out; have hnc50 := NB540_538.out; have hcz51_0 : w48.cell? ⟨gb538, 0, none⟩ = some (.bool a0_0) := (kI BK538.out 0).trans rfl; have hcz51_1 : w48.cell? ⟨gb538, 1, none⟩ = some (.slice A0_1 l0_1.length c0_1) := (kI BK538.out 1).trans rfl; have hfz51_0 := kH BK538.out 0; have hfz51_1 := kH BK538.out 1; have hnb52 := NB539_540.out; have hnc52 := NB540_539.out; have hcz53_0 : w48.cell? ⟨gb539, 0, none⟩ = some (.bool a1_0) := (kI BK539.out 0).trans rfl; have hcz53_1 : w48.cell? ⟨gb539, 1, none⟩ = some (.slice A1_1 l1_1.length c1_1) := (kI BK539.out 1).trans rfl; have hfz53_0 := kH BK539.out 0; have hfz53_1 := kH BK539.out 1; obtain ⟨Ao54, co54, eo54⟩ := Kd.R_slice HO554.out; subst eo54; have hcz55_0 : w48.cell? ⟨gb540, 0, none⟩ = some (.bool false) := (kI BK540.out 0).trans rfl; have hcz55_1 : w48.cell? ⟨gb540, 1, none⟩ = some (.slice none 0 0) := (kI BK540.out 1).trans rfl; have hfz55_0 := kH BK540.out 0; have hfz55_1 := kH BK540.out 1))
          refine bodyPost_ret (results_cell_row rfl _ _ gb540 70 #[.bool false, .slice Ao54 t552.length co54] (0, 0) _ rfl (by (with_reducible repeat (first | refine kE ?_ _ | refine kG ?_ | refine kF ?_ _)); refine kR (cs := #[.bool false, .slice none 0 0]) ?_ 1 _ rfl; (with_reducible repeat (first | refine kE ?_ _ | refine kG ?_ | refine kF ?_ _)); refine kR (cs := #[.bool false, .slice none 0 0]) ?_ 0 _ rfl; (with_reducible repeat (first | refine kE ?_ _ | refine kG ?_ | refine kF ?_ _)); exact BK540.out) Try.underlying70 rfl (by kernel_rfl)) rfl ?_
          exact ⟨_, by first | rfl | (simp [errW_none, errW_some] <;> rfl) | (simp [*, errW_none, errW_some] <;> rfl), by (with_reducible repeat (first | apply Kd.R_alloc | apply Kd.R_drewN | apply Kd.R_drew)); exact Kd.R_mono (Kd.R_far (p := ⟨gb540, 1, none⟩) (Kd.R_far (p := ⟨gb540, 0, none⟩) (Kd.R_types HO554.out BK540.out (by decide)) (fun _ hk => hk.2) (.bool false)) (fun _ hk => hk.2) (.slice Ao54 t552.length co54)) (fun _ hk => trivial), by repeat (first | (with_reducible first | exact HB.out | apply kC | apply kA | apply kB | refine kD ?_ GE538.out | refine kD ?_ GE539.out | refine kD ?_ GE540.out) | exact HB.out)⟩
      · replace c28 := Bool.eq_false_iff.mpr c28
        subst c28
        have H1 : (if (a0_0 != a1_0) = true then ((computusref01_zero.f kj3 t541).bind fun t556 => (some (!t556, t541))) else (some (false, t541))) = some (r1, r2) := by rw [if_neg (show ¬ (false = true) by decide)] at H; exact H
        clear H
        have H := H1
        clear H1
        by_cases c56 : (a0_0 != a1_0) = true
        · rw [if_pos c56] at H
          have c56b0 : (a0_0 != a1_0) = true := c56
          (try (have c56b1 : decide (a0_0 = a1_0) = false := by simpa using c56))
          (try (have c56b2 : (a0_0 == a1_0) = false := by simpa using c56))
          (try (have c56b3 : ¬ (a0_0 = a1_0) := by simpa using c56))
          clear c56
          replace H := Option.bind_eq_some_iff.mp H
          obtain ⟨t556, A570, H⟩ := H
          replace H : (some (!t556, t541)) = some (r1, r2) := H
          have A57 := Aside0.mk A570
          clear A570
          simp only [Option.some.injEq, Prod.mk.injEq] at H
          obtain ⟨rfl, rfl⟩ := H
          have hnb58 := NB538_539.out
          have hnc58 := NB539_538.out
          have hnb59 := NB538_540.out
          have hnc59 := NB540_538.out
          have hcz60_0 : wc.cell? ⟨gb538, 0, none⟩ = some (.bool a0_0) := (kI BK538.out 0).trans rfl
          have hcz60_1 : wc.cell? ⟨gb538, 1, none⟩ = some (.slice A0_1 l0_1.length c0_1) := (kI BK538.out 1).trans rfl
          have hfz60_0 := kH BK538.out 0
          have hfz60_1 := kH BK538.out 1
          have hnb61 := NB539_540.out
          have hnc61 := NB540_539.out
          have hcz62_0 : wc.cell? ⟨gb539, 0, none⟩ = some (.bool a1_0) := (kI BK539.out 0).trans rfl
          have hcz62_1 : wc.cell? ⟨gb539, 1, none⟩ = some (.slice A1_1 l1_1.length c1_1) := (kI BK539.out 1).trans rfl
          have hfz62_0 := kH BK539.out 0
          have hfz62_1 := kH BK539.out 1
          obtain ⟨Ao63, co63, eo63⟩ := Kd.R_slice HO_5.out
          subst eo63
          go_wp2_with (first | (go_at_call 96; (with_reducible refine (computusref01_zero.calls kj3 _ _ t541 t556 _ ?side1 ?side2 A57.out).mono ?_); (case side1 => repeat (first | exact (Kd.R_reads' HO_5.out).2.2 | (with_reducible refine Kd.C_alloc ?_ _) | (with_reducible refine Kd.C_drewN ?_ _) | (with_reducible refine Kd.C_drew ?_))); (case side2 => exact (Kd.R_reads' HO_5.out).2.1); rintro e w64 ⟨rfl, hb⟩; have n0_ := Aside0.mk (Kd.R_below (by (with_reducible repeat (first | apply Kd.R_alloc | apply Kd.R_drewN | apply Kd.R_drew)); exact HO_5.out) hb); have n1_ := Aside0.mk (kM (g := gb538) (o := .cells #[.bool a0_0, .slice A0_1 l0_1.length c0_1] 70 (0, 0)) (by (with_reducible repeat (first | refine kE ?_ _ | refine kG ?_ | refine kF ?_ _)); exact BK538.out) hb); have n2_ := Aside0.mk (kM (g := gb539) (o := .cells #[.bool a1_0, .slice A1_1 l1_1.length c1_1] 70 (0, 0)) (by (with_reducible repeat (first | refine kE ?_ _ | refine kG ?_ | refine kF ?_ _)); exact BK539.out) hb); have n3_ := Aside0.mk (kM (g := gb540) (o := .cells #[.bool false, .slice none 0 0] 70 (0, 0)) (by (with_reducible repeat (first | refine kE ?_ _ | refine kG ?_ | refine kF ?_ _)); exact BK540.out) hb); have n4_ := Aside0.mk (kK (by repeat (first | (with_reducible first | exact HB.out | apply kC | apply kA | apply kB | refine kD ?_ GE538.out | refine kD ?_ GE539.out | refine kD ?_ GE540.out) | exact HB.out)) hb); clear HO_5; clear BK538; clear BK539; clear BK540; clear HB; have HO_5 := n0_; have BK538 := n1_; have BK539 := n2_; have BK540 := n3_; have HB := n4_; clear n0_ n1_ n2_ n3_ n4_; (try clear hb); (try clear hb2); (try clear hk); (try clear hi); have hcz65_0 : w64.cell? ⟨gb540, 0, none⟩ = some (.bool false) := (kI BK540.out 0).trans rfl; have hcz65_1 : w64.cell? ⟨gb540, 1, none⟩ = some (.slice none 0 0) := (kI BK540.out 1).trans rfl; have hfz65_0 := kH BK540.out 0; have hfz65_1 := kH BK540.out 1))
          refine bodyPost_ret (results_cell_row rfl _ _ gb540 70 #[.bool (!t556), .slice Ao63 t541.length co63] (0, 0) _ rfl (by (with_reducible repeat (first | refine kE ?_ _ | refine kG ?_ | refine kF ?_ _)); refine kR (cs := #[.bool (!t556), .slice none 0 0]) ?_ 1 _ rfl; (with_reducible repeat (first | refine kE ?_ _ | refine kG ?_ | refine kF ?_ _)); refine kR (cs := #[.bool false, .slice none 0 0]) ?_ 0 _ rfl; (with_reducible repeat (first | refine kE ?_ _ | refine kG ?_ | refine kF ?_ _)); exact BK540.out) Try.underlying70 rfl (by kernel_rfl)) rfl ?_
          exact ⟨_, by first | rfl | (simp [errW_none, errW_some] <;> rfl) | (simp [*, errW_none, errW_some] <;> rfl), by (with_reducible repeat (first | apply Kd.R_alloc | apply Kd.R_drewN | apply Kd.R_drew)); exact Kd.R_mono (Kd.R_far (p := ⟨gb540, 1, none⟩) (Kd.R_far (p := ⟨gb540, 0, none⟩) (Kd.R_types HO_5.out BK540.out (by decide)) (fun _ hk => hk.2) (.bool (!t556))) (fun _ hk => hk.2) (.slice Ao63 t541.length co63)) (fun _ hk => trivial), by repeat (first | (with_reducible first | exact HB.out | apply kC | apply kA | apply kB | refine kD ?_ GE538.out | refine kD ?_ GE539.out | refine kD ?_ GE540.out) | exact HB.out)⟩
        · rw [if_neg c56] at H
          have c56b0 : (a0_0 != a1_0) = false := by simpa using c56
          (try (have c56b1 : decide (a0_0 = a1_0) = true := by simpa using c56))
          (try (have c56b2 : (a0_0 == a1_0) = true := by simpa using c56))
          clear c56
          simp only [Option.some.injEq, Prod.mk.injEq] at H
          obtain ⟨rfl, rfl⟩ := H
          have hnb66 := NB538_539.out
          have hnc66 := NB539_538.out
          have hnb67 := NB538_540.out
          have hnc67 := NB540_538.out
          have hcz68_0 : wc.cell? ⟨gb538, 0, none⟩ = some (.bool a0_0) := (kI BK538.out 0).trans rfl
          have hcz68_1 : wc.cell? ⟨gb538, 1, none⟩ = some (.slice A0_1 l0_1.length c0_1) := (kI BK538.out 1).trans rfl
          have hfz68_0 := kH BK538.out 0
          have hfz68_1 := kH BK538.out 1
          have hnb69 := NB539_540.out
          have hnc69 := NB540_539.out
          have hcz70_0 : wc.cell? ⟨gb539, 0, none⟩ = some (.bool a1_0) := (kI BK539.out 0).trans rfl
          have hcz70_1 : wc.cell? ⟨gb539, 1, none⟩ = some (.slice A1_1 l1_1.length c1_1) := (kI BK539.out 1).trans rfl
          have hfz70_0 := kH BK539.out 0
          have hfz70_1 := kH BK539.out 1
          obtain ⟨Ao71, co71, eo71⟩ := Kd.R_slice HO_5.out
          subst eo71
          have hcz72_0 : wc.cell? ⟨gb540, 0, none⟩ = some (.bool false) := (kI BK540.out 0).trans rfl
          have hcz72_1 : wc.cell? ⟨gb540, 1, none⟩ = some (.slice none 0 0) := (kI BK540.out 1).trans rfl
          have hfz72_0 := kH BK540.out 0
          have hfz72_1 := kH BK540.out 1
          go_wp2
          refine bodyPost_ret (results_cell_row rfl _ _ gb540 70 #[.bool false, .slice Ao71 t541.length co71] (0, 0) _ rfl (by (with_reducible repeat (first | refine kE ?_ _ | refine kG ?_ | refine kF ?_ _)); refine kR (cs := #[.bool false, .slice none 0 0]) ?_ 1 _ rfl; (with_reducible repeat (first | refine kE ?_ _ | refine kG ?_ | refine kF ?_ _)); refine kR (cs := #[.bool false, .slice none 0 0]) ?_ 0 _ rfl; (with_reducible repeat (first | refine kE ?_ _ | refine kG ?_ | refine kF ?_ _)); exact BK540.out) Try.underlying70 rfl (by kernel_rfl)) rfl ?_
          exact ⟨_, by first | rfl | (simp [errW_none, errW_some] <;> rfl) | (simp [*, errW_none, errW_some] <;> rfl), by (with_reducible repeat (first | apply Kd.R_alloc | apply Kd.R_drewN | apply Kd.R_drew)); exact Kd.R_mono (Kd.R_far (p := ⟨gb540, 1, none⟩) (Kd.R_far (p := ⟨gb540, 0, none⟩) (Kd.R_types HO_5.out BK540.out (by decide)) (fun _ hk => hk.2) (.bool false)) (fun _ hk => hk.2) (.slice Ao71 t541.length co71)) (fun _ hk => trivial), by repeat (first | (with_reducible first | exact HB.out | apply kC | apply kA | apply kB | refine kD ?_ GE538.out | refine kD ?_ GE539.out | refine kD ?_ GE540.out) | exact HB.out)⟩
end Go.Proofs.Ytgjbdojpncmmlaa.P
