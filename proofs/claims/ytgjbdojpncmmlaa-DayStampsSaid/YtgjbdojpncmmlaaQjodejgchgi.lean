-- Written by a program of the session (a print of the seat's translation, functions given by hand among it). Lean checks it.
import Derived.Test.YtgjbdojpncmmlaaQbjoegdnofm
import Derived.Test.YtgjbdojpncmmlaaQnfkpijegfp
import Derived.Test.YtgjbdojpncmmlaaQfhmfffjpae
namespace Go.Proofs.Ytgjbdojpncmmlaa.P
open Go.RowKit Go.Proofs.YtgjbdojpncmmlaaW.PrintWords Go.Proofs.YtgjbdojpncmmlaaW.PrintLast Go.Proofs.YtgjbdojpncmmlaaW.PrintMore
attribute [local go_sem] max2_int min2_int max_two min_two max_three min_three max_four min_four   -- for this text's walks alone
set_option linter.unusedVariables false
set_option linter.unusedSimpArgs false
def computusref01_Over.j0 : Nat → List Int → Bool → Bool → List Int → Bool → List Int → Option (Bool × List Int)
  | 0, _, _, _, _, _, _ => none
  | k + 1, x5, x24, x539000, x539001, x540000, x540001 => if x24 = true then ((computusref01_Of.f 1).bind fun bt548 => ((computusref01_add.f k x5 bt548.2).bind fun t552 => (if (x539000 != x540000) = true then ((computusref01_zero.f k t552).bind fun t555 => (some (!t555, t552))) else (some (false, t552))))) else (if (x539000 != x540000) = true then ((computusref01_zero.f k x5).bind fun t556 => (some (!t556, x5))) else (some (false, x5)))
def computusref01_Over.f (k : Nat) (a0_0 : Bool) (l0_1 : List Int) (a1_0 : Bool) (l1_1 : List Int) : Option (Bool × List Int) := (computusref01_divide.f k l0_1 l1_1).bind fun bt541 => (if (a0_0 != a1_0) = true then ((computusref01_zero.f k bt541.2).bind fun t547 => (computusref01_Over.j0 k bt541.1 (!t547) a0_0 l0_1 a1_0 l1_1)) else (computusref01_Over.j0 k bt541.1 false a0_0 l0_1 a1_0 l1_1))
set_option maxHeartbeats 8000000 in
set_option maxRecDepth 100000 in
theorem computusref01_Over.calls (k : Nat) (a0_0 : Bool) (A0_1 : Option Addr) (c0_1 : Nat) (l0_1 : List Int) (a1_0 : Bool) (A1_1 : Option Addr) (c1_1 : Nat) (l1_1 : List Int) (r1 : Bool) (r2 : List Int) (w : World) (hr0_1 : Kd.C (Kd.int .u64) w A0_1 l0_1.length l0_1) (hc0_1 : l0_1.length ≤ c0_1) (hr1_1 : Kd.C (Kd.int .u64) w A1_1 l1_1.length l1_1) (hc1_1 : l1_1.length ≤ c1_1) (h : computusref01_Over.f k a0_0 l0_1 a1_0 l1_1 = some (r1, r2)) :
    Calls Try.prog 90 #[.agg #[.bool a0_0, .slice A0_1 l0_1.length c0_1], .agg #[.bool a1_0, .slice A1_1 l1_1.length c1_1]] w fun e w' => ∃ v1_ : Value, e = .returned (.agg #[.bool r1, v1_]) ∧ Kd.R (Kd.int .u64) 75 w' w.heap.size (fun _ => True) v1_ r2 ∧ Below w.heap.size w w' := by
  have hu70 := Try.underlying70
  have hfd70_1 : ∀ (y0_ y1_ : Value) (W : World), (Instr.field 70 (.agg #[y0_, y1_]) 1).run Try.prog W = .ok (y1_) W := fun y0_ y1_ W => by rfl
  have HR0_1 := Aside0.mk hr0_1
  have HC0_1 := Aside0.mk hc0_1
  clear hr0_1 hc0_1
  have HR1_1 := Aside0.mk hr1_1
  have HC1_1 := Aside0.mk hc1_1
  clear hr1_1 hc1_1
  have HB := Aside0.mk (Below.refl w.heap.size w)
  have H : ((computusref01_divide.f k l0_1 l1_1).bind fun bt541 => (if (a0_0 != a1_0) = true then ((computusref01_zero.f k bt541.2).bind fun t547 => (computusref01_Over.j0 k bt541.1 (!t547) a0_0 l0_1 a1_0 l1_1)) else (computusref01_Over.j0 k bt541.1 false a0_0 l0_1 a1_0 l1_1))) = some (r1, r2) := h
  clear h
  replace H := Option.bind_eq_some_iff.mp H
  obtain ⟨⟨t541, t542⟩, A30, H⟩ := H
  replace H : (if (a0_0 != a1_0) = true then ((computusref01_zero.f k t542).bind fun t547 => (computusref01_Over.j0 k t541 (!t547) a0_0 l0_1 a1_0 l1_1)) else (computusref01_Over.j0 k t541 false a0_0 l0_1 a1_0 l1_1)) = some (r1, r2) := H
  have A3 := Aside0.mk A30
  clear A30
  have HC4 := Aside0.mk H
  clear H
  go_enter Try.func90, Try.ntmps90
  go_upto_region 2 with (first | ((with_reducible refine gate_dst (N := 2) rfl ?_); refine box_event ?hg (N := 2) ?hd (cs := #[.bool a0_0, .slice A0_1 l0_1.length c0_1]) (t := 70) ?hr ?_; (case hd => rfl); (case hg => rfl); (case hr => first | (go_simp; done) | (go_simp; rfl)); intro gb538 hg w5 hbox hb; have n0_ := Aside0.mk (kM (by repeat (first | (with_reducible first | exact HB.out | apply kG | apply kD | apply kF) | exact HB.out)) hb); have n1_ := Aside0.mk (hbox); have n2_ := Aside0.mk ((by rw [hg]; exact (kK (by repeat (first | (with_reducible first | exact HB.out | apply kG | apply kD | apply kF) | exact HB.out))) : w.heap.size ≤ gb538)); have n3_ := Aside0.mk ((by rw [hg]; exact (kK (by repeat (first | (with_reducible first | exact HB.out | apply kG | apply kD | apply kF) | exact HB.out))) : w.heap.size ≤ gb538)); clear HB; have HB := n0_; have BK538 := n1_; have GW538 := n2_; have GE538 := n3_; clear n0_ n1_ n2_ n3_; clear hb hbox hg) | ((with_reducible refine gate_dst (N := 3) rfl ?_); refine box_event ?hg (N := 3) ?hd (cs := #[.bool a1_0, .slice A1_1 l1_1.length c1_1]) (t := 70) ?hr ?_; (case hd => rfl); (case hg => rfl); (case hr => first | (go_simp; done) | (go_simp; rfl)); intro gb539 hg w6 hbox hb; have n0_ := Aside0.mk (kI (g := gb538) (o := .cells #[.bool a0_0, .slice A0_1 l0_1.length c0_1] 70 (0, 0)) (by (with_reducible repeat (first | refine kB ?_ _ | refine kE ?_ | refine kC ?_ _)); exact BK538.out) hb); have n1_ := Aside0.mk (kM (by repeat (first | (with_reducible first | exact HB.out | apply kG | apply kD | apply kF | refine kA ?_ GE538.out) | exact HB.out)) hb); have n2_ := Aside0.mk (hbox); have n3_ := Aside0.mk ((by rw [hg]; exact (kK (by repeat (first | (with_reducible first | exact HB.out | apply kG | apply kD | apply kF | refine kA ?_ GE538.out) | exact HB.out))) : w.heap.size ≤ gb539)); have n4_ := Aside0.mk ((by rw [hg]; exact (kK (by repeat (first | (with_reducible first | exact HB.out | apply kG | apply kD | apply kF | refine kA ?_ GE538.out) | exact HB.out))) : w.heap.size ≤ gb539)); have n5_ := Aside0.mk ((by rw [hg]; exact Nat.ne_of_lt (kP (g := gb538) (o := .cells #[.bool a0_0, .slice A0_1 l0_1.length c0_1] 70 (0, 0)) (by (with_reducible repeat (first | refine kB ?_ _ | refine kE ?_ | refine kC ?_ _)); exact BK538.out)) : gb538 ≠ gb539)); have n6_ := Aside0.mk ((by rw [hg]; exact Nat.ne_of_gt (kP (g := gb538) (o := .cells #[.bool a0_0, .slice A0_1 l0_1.length c0_1] 70 (0, 0)) (by (with_reducible repeat (first | refine kB ?_ _ | refine kE ?_ | refine kC ?_ _)); exact BK538.out)) : gb539 ≠ gb538)); clear BK538; clear HB; have BK538 := n0_; have HB := n1_; have BK539 := n2_; have GW539 := n3_; have GE539 := n4_; have NB538_539 := n5_; have NB539_538 := n6_; clear n0_ n1_ n2_ n3_ n4_ n5_ n6_; clear hb hbox hg) | ((with_reducible refine gate_dst (N := 4) rfl ?_); refine box_event ?hg (N := 4) ?hd (cs := #[.bool false, .slice none 0 0]) (t := 70) ?hr ?_; (case hd => rfl); (case hg => rfl); (case hr => first | (go_simp; done) | (go_simp; rfl)); intro gb540 hg w7 hbox hb; have n0_ := Aside0.mk (kI (g := gb538) (o := .cells #[.bool a0_0, .slice A0_1 l0_1.length c0_1] 70 (0, 0)) (by (with_reducible repeat (first | refine kB ?_ _ | refine kE ?_ | refine kC ?_ _)); exact BK538.out) hb); have n1_ := Aside0.mk (kI (g := gb539) (o := .cells #[.bool a1_0, .slice A1_1 l1_1.length c1_1] 70 (0, 0)) (by (with_reducible repeat (first | refine kB ?_ _ | refine kE ?_ | refine kC ?_ _)); exact BK539.out) hb); have n2_ := Aside0.mk (kM (by repeat (first | (with_reducible first | exact HB.out | apply kG | apply kD | apply kF | refine kA ?_ GE538.out | refine kA ?_ GE539.out) | exact HB.out)) hb); have n3_ := Aside0.mk (hbox); have n4_ := Aside0.mk ((by rw [hg]; exact (kK (by repeat (first | (with_reducible first | exact HB.out | apply kG | apply kD | apply kF | refine kA ?_ GE538.out | refine kA ?_ GE539.out) | exact HB.out))) : w.heap.size ≤ gb540)); have n5_ := Aside0.mk ((by rw [hg]; exact (kK (by repeat (first | (with_reducible first | exact HB.out | apply kG | apply kD | apply kF | refine kA ?_ GE538.out | refine kA ?_ GE539.out) | exact HB.out))) : w.heap.size ≤ gb540)); have n6_ := Aside0.mk ((by rw [hg]; exact Nat.ne_of_lt (kP (g := gb538) (o := .cells #[.bool a0_0, .slice A0_1 l0_1.length c0_1] 70 (0, 0)) (by (with_reducible repeat (first | refine kB ?_ _ | refine kE ?_ | refine kC ?_ _)); exact BK538.out)) : gb538 ≠ gb540)); have n7_ := Aside0.mk ((by rw [hg]; exact Nat.ne_of_gt (kP (g := gb538) (o := .cells #[.bool a0_0, .slice A0_1 l0_1.length c0_1] 70 (0, 0)) (by (with_reducible repeat (first | refine kB ?_ _ | refine kE ?_ | refine kC ?_ _)); exact BK538.out)) : gb540 ≠ gb538)); have n8_ := Aside0.mk ((by rw [hg]; exact Nat.ne_of_lt (kP (g := gb539) (o := .cells #[.bool a1_0, .slice A1_1 l1_1.length c1_1] 70 (0, 0)) (by (with_reducible repeat (first | refine kB ?_ _ | refine kE ?_ | refine kC ?_ _)); exact BK539.out)) : gb539 ≠ gb540)); have n9_ := Aside0.mk ((by rw [hg]; exact Nat.ne_of_gt (kP (g := gb539) (o := .cells #[.bool a1_0, .slice A1_1 l1_1.length c1_1] 70 (0, 0)) (by (with_reducible repeat (first | refine kB ?_ _ | refine kE ?_ | refine kC ?_ _)); exact BK539.out)) : gb540 ≠ gb539)); clear BK538; clear BK539; clear HB; have BK538 := n0_; have BK539 := n1_; have HB := n2_; have BK540 := n3_; have GW540 := n4_; have GE540 := n5_; have NB538_540 := n6_; have NB540_538 := n7_; have NB539_540 := n8_; have NB540_539 := n9_; clear n0_ n1_ n2_ n3_ n4_ n5_ n6_ n7_ n8_ n9_; clear hb hbox hg; have hnb8 := NB538_539.out; have hnc8 := NB539_538.out; have hnb9 := NB538_540.out; have hnc9 := NB540_538.out; have hcz10_0 : w7.cell? ⟨gb538, 0, none⟩ = some (.bool a0_0) := (kH BK538.out 0).trans rfl; have hcz10_1 : w7.cell? ⟨gb538, 1, none⟩ = some (.slice A0_1 l0_1.length c0_1) := (kH BK538.out 1).trans rfl; have hfz10_0 := kJ BK538.out 0; have hfz10_1 := kJ BK538.out 1; have hnb11 := NB539_540.out; have hnc11 := NB540_539.out; have hcz12_0 : w7.cell? ⟨gb539, 0, none⟩ = some (.bool a1_0) := (kH BK539.out 0).trans rfl; have hcz12_1 : w7.cell? ⟨gb539, 1, none⟩ = some (.slice A1_1 l1_1.length c1_1) := (kH BK539.out 1).trans rfl; have hfz12_0 := kJ BK539.out 0; have hfz12_1 := kJ BK539.out 1) | ((with_reducible refine kL (f := 95) rfl ?_); refine goesL_ (some 12) rfl rfl Try.func95 (by kernel_rfl) rfl #[.slice A0_1 l0_1.length c0_1, .slice A1_1 l1_1.length c1_1] rfl (by (try simp only [List.map_toArray, List.map_cons, List.map_nil]); first | done | rfl | (simp only [List.length_drop, List.length_take]; rfl)) ?_; (with_reducible refine (computusref01_divide.calls k _ _ l0_1 _ _ l1_1 t541 t542 _ ?side1 ?side2 ?side3 ?side4 A3.out).mono ?_); (case side1 => repeat (first | exact (Kd.C_below HR0_1.out HB.out) | (with_reducible refine Kd.C_alloc ?_ _) | (with_reducible refine Kd.C_drewN ?_ _) | (with_reducible refine Kd.C_drew ?_))); (case side2 => exact HC0_1.out); (case side3 => repeat (first | exact (Kd.C_below HR1_1.out HB.out) | (with_reducible refine Kd.C_alloc ?_ _) | (with_reducible refine Kd.C_drewN ?_ _) | (with_reducible refine Kd.C_drew ?_))); (case side4 => exact HC1_1.out); rintro e w13 ⟨v543, v545, rfl, ho0, ho1, hb⟩; refine ⟨_, rfl, ?_⟩; have n0_ := Aside0.mk (Kd.R_lower ho0 (kK (by repeat (first | (with_reducible first | exact HB.out | apply kG | apply kD | apply kF | refine kA ?_ GE538.out | refine kA ?_ GE539.out | refine kA ?_ GE540.out) | exact HB.out)))); have n1_ := Aside0.mk (Kd.R_lower ho1 (kK (by repeat (first | (with_reducible first | exact HB.out | apply kG | apply kD | apply kF | refine kA ?_ GE538.out | refine kA ?_ GE539.out | refine kA ?_ GE540.out) | exact HB.out)))); have n2_ := Aside0.mk (kI (g := gb538) (o := .cells #[.bool a0_0, .slice A0_1 l0_1.length c0_1] 70 (0, 0)) (by (with_reducible repeat (first | refine kB ?_ _ | refine kE ?_ | refine kC ?_ _)); exact BK538.out) hb); have n3_ := Aside0.mk (kI (g := gb539) (o := .cells #[.bool a1_0, .slice A1_1 l1_1.length c1_1] 70 (0, 0)) (by (with_reducible repeat (first | refine kB ?_ _ | refine kE ?_ | refine kC ?_ _)); exact BK539.out) hb); have n4_ := Aside0.mk (kI (g := gb540) (o := .cells #[.bool false, .slice none 0 0] 70 (0, 0)) (by (with_reducible repeat (first | refine kB ?_ _ | refine kE ?_ | refine kC ?_ _)); exact BK540.out) hb); have n5_ := Aside0.mk (kM (by repeat (first | (with_reducible first | exact HB.out | apply kG | apply kD | apply kF | refine kA ?_ GE538.out | refine kA ?_ GE539.out | refine kA ?_ GE540.out) | exact HB.out)) hb); clear BK538; clear BK539; clear BK540; clear HB; have HO544 := n0_; have HO546 := n1_; have BK538 := n2_; have BK539 := n3_; have BK540 := n4_; have HB := n5_; clear n0_ n1_ n2_ n3_ n4_ n5_; (try clear hb); (try clear hb2); (try clear hk); (try clear hi); (try clear ho0); (try clear ho1)))
  (try simp only [Act.put, List.setIfInBounds_toArray, List.set_cons_zero, List.set_cons_succ])
  go_cut [24] (fun v24 wc => ∃ (kq : Nat) (x24_3 : Bool), v24 = .bool x24_3 ∧ Aside0 (computusref01_Over.j0 kq t541 x24_3 a0_0 l0_1 a1_0 l1_1 = some (r1, r2)) ∧ Aside0 (kq ≤ k) ∧ Aside0 (Kd.R (Kd.int .u64) 75 wc w.heap.size (fun _ => True) v543 t541) ∧ Aside0 (wc.heap[gb538]? = some (.cells #[.bool a0_0, (.slice A0_1 l0_1.length c0_1)] 70 (0, 0))) ∧ Aside0 (wc.heap[gb539]? = some (.cells #[.bool a1_0, (.slice A1_1 l1_1.length c1_1)] 70 (0, 0))) ∧ Aside0 (wc.heap[gb540]? = some (.cells #[.bool false, (.slice none 0 0)] 70 (0, 0))) ∧ Aside0 (Below w.heap.size w wc))
  case first =>
    have H := HC4.out
    clear HC4
    by_cases c14 : (a0_0 != a1_0) = true
    · rw [if_pos c14] at H
      have c14b0 : (a0_0 != a1_0) = true := c14
      (try (have c14b1 : decide (a0_0 = a1_0) = false := by simpa using c14))
      (try (have c14b2 : (a0_0 == a1_0) = false := by simpa using c14))
      (try (have c14b3 : ¬ (a0_0 = a1_0) := by simpa using c14))
      clear c14
      (first | rw [c14b0] | (simp only [kN, kO]; rw [c14b0]) | skip)
      replace H := Option.bind_eq_some_iff.mp H
      obtain ⟨t547, A150, H⟩ := H
      replace H : (computusref01_Over.j0 k t541 (!t547) a0_0 l0_1 a1_0 l1_1) = some (r1, r2) := H
      have A15 := Aside0.mk A150
      clear A150
      have H' := Aside0.mk H
      clear H
      have hnb16 := NB538_539.out
      have hnc16 := NB539_538.out
      have hnb17 := NB538_540.out
      have hnc17 := NB540_538.out
      have hcz18_0 : w13.cell? ⟨gb538, 0, none⟩ = some (.bool a0_0) := (kH BK538.out 0).trans rfl
      have hcz18_1 : w13.cell? ⟨gb538, 1, none⟩ = some (.slice A0_1 l0_1.length c0_1) := (kH BK538.out 1).trans rfl
      have hfz18_0 := kJ BK538.out 0
      have hfz18_1 := kJ BK538.out 1
      have hnb19 := NB539_540.out
      have hnc19 := NB540_539.out
      have hcz20_0 : w13.cell? ⟨gb539, 0, none⟩ = some (.bool a1_0) := (kH BK539.out 0).trans rfl
      have hcz20_1 : w13.cell? ⟨gb539, 1, none⟩ = some (.slice A1_1 l1_1.length c1_1) := (kH BK539.out 1).trans rfl
      have hfz20_0 := kJ BK539.out 0
      have hfz20_1 := kJ BK539.out 1
      obtain ⟨Ao21, co21, eo21⟩ := Kd.R_slice HO546.out
      subst eo21
      go_wp2_with (first | (go_at_call 96; (with_reducible refine (computusref01_zero.calls k _ _ t542 t547 _ ?side1 ?side2 A15.out).mono ?_); (case side1 => repeat (first | exact (Kd.R_reads' HO546.out).2.2 | (with_reducible refine Kd.C_alloc ?_ _) | (with_reducible refine Kd.C_drewN ?_ _) | (with_reducible refine Kd.C_drew ?_))); (case side2 => exact (Kd.R_reads' HO546.out).2.1); rintro e w22 ⟨rfl, hb⟩; have n0_ := Aside0.mk (Kd.R_below (by (with_reducible repeat (first | apply Kd.R_alloc | apply Kd.R_drewN | apply Kd.R_drew)); exact HO544.out) hb); have n1_ := Aside0.mk (Kd.R_below (by (with_reducible repeat (first | apply Kd.R_alloc | apply Kd.R_drewN | apply Kd.R_drew)); exact HO546.out) hb); have n2_ := Aside0.mk (kI (g := gb538) (o := .cells #[.bool a0_0, .slice A0_1 l0_1.length c0_1] 70 (0, 0)) (by (with_reducible repeat (first | refine kB ?_ _ | refine kE ?_ | refine kC ?_ _)); exact BK538.out) hb); have n3_ := Aside0.mk (kI (g := gb539) (o := .cells #[.bool a1_0, .slice A1_1 l1_1.length c1_1] 70 (0, 0)) (by (with_reducible repeat (first | refine kB ?_ _ | refine kE ?_ | refine kC ?_ _)); exact BK539.out) hb); have n4_ := Aside0.mk (kI (g := gb540) (o := .cells #[.bool false, .slice none 0 0] 70 (0, 0)) (by (with_reducible repeat (first | refine kB ?_ _ | refine kE ?_ | refine kC ?_ _)); exact BK540.out) hb); have n5_ := Aside0.mk (kM (by repeat (first | (with_reducible first | exact HB.out | apply kG | apply kD | apply kF | refine kA ?_ GE538.out | refine kA ?_ GE539.out | refine kA ?_ GE540.out) | exact HB.out)) hb); clear HO544; clear HO546; clear BK538; clear BK539; clear BK540; clear HB; have HO544 := n0_; have HO546 := n1_; have BK538 := n2_; have BK539 := n3_; have BK540 := n4_; have HB := n5_; clear n0_ n1_ n2_ n3_ n4_ n5_; (try clear hb); (try clear hb2); (try clear hk); (try clear hi)))
      go_meet
      case rel => exact ⟨_, (!t547), (by first | rfl | (simp; done) | (simp [*]; done)), H', ⟨by first | omega | exact Nat.le_refl _⟩, ⟨by (with_reducible repeat (first | apply Kd.R_alloc | apply Kd.R_drewN | apply Kd.R_drew)); exact Kd.R_mono HO544.out (fun _ hk => trivial)⟩, ⟨by (with_reducible repeat (first | refine kB ?_ _ | refine kE ?_ | refine kC ?_ _)); exact BK538.out⟩, ⟨by (with_reducible repeat (first | refine kB ?_ _ | refine kE ?_ | refine kC ?_ _)); exact BK539.out⟩, ⟨by (with_reducible repeat (first | refine kB ?_ _ | refine kE ?_ | refine kC ?_ _)); exact BK540.out⟩, ⟨by repeat (first | (with_reducible first | exact HB.out | apply kG | apply kD | apply kF | refine kA ?_ GE538.out | refine kA ?_ GE539.out | refine kA ?_ GE540.out) | exact HB.out)⟩⟩
    · rw [if_neg c14] at H
      have c14b0 : (a0_0 != a1_0) = false := by simpa using c14
      (try (have c14b1 : decide (a0_0 = a1_0) = true := by simpa using c14))
      (try (have c14b2 : (a0_0 == a1_0) = true := by simpa using c14))
      clear c14
      (first | rw [c14b0] | (simp only [kN, kO]; rw [c14b0]) | skip)
      have H' := Aside0.mk H
      clear H
      have hnb23 := NB538_539.out
      have hnc23 := NB539_538.out
      have hnb24 := NB538_540.out
      have hnc24 := NB540_538.out
      have hcz25_0 : w13.cell? ⟨gb538, 0, none⟩ = some (.bool a0_0) := (kH BK538.out 0).trans rfl
      have hcz25_1 : w13.cell? ⟨gb538, 1, none⟩ = some (.slice A0_1 l0_1.length c0_1) := (kH BK538.out 1).trans rfl
      have hfz25_0 := kJ BK538.out 0
      have hfz25_1 := kJ BK538.out 1
      have hnb26 := NB539_540.out
      have hnc26 := NB540_539.out
      have hcz27_0 : w13.cell? ⟨gb539, 0, none⟩ = some (.bool a1_0) := (kH BK539.out 0).trans rfl
      have hcz27_1 : w13.cell? ⟨gb539, 1, none⟩ = some (.slice A1_1 l1_1.length c1_1) := (kH BK539.out 1).trans rfl
      have hfz27_0 := kJ BK539.out 0
      have hfz27_1 := kJ BK539.out 1
      go_wp2
      go_meet
      case rel => exact ⟨_, (false), (by first | rfl | (simp; done) | (simp [*]; done)), H', ⟨by first | omega | exact Nat.le_refl _⟩, ⟨by (with_reducible repeat (first | apply Kd.R_alloc | apply Kd.R_drewN | apply Kd.R_drew)); exact Kd.R_mono HO544.out (fun _ hk => trivial)⟩, ⟨by (with_reducible repeat (first | refine kB ?_ _ | refine kE ?_ | refine kC ?_ _)); exact BK538.out⟩, ⟨by (with_reducible repeat (first | refine kB ?_ _ | refine kE ?_ | refine kC ?_ _)); exact BK539.out⟩, ⟨by (with_reducible repeat (first | refine kB ?_ _ | refine kE ?_ | refine kC ?_ _)); exact BK540.out⟩, ⟨by repeat (first | (with_reducible first | exact HB.out | apply kG | apply kD | apply kF | refine kA ?_ GE538.out | refine kA ?_ GE539.out | refine kA ?_ GE540.out) | exact HB.out)⟩⟩
  case rest =>
    clear HC4
    try clear c1
    try clear c2
    try clear p2
    try clear c8
    try clear c9
    try clear c11
    try clear c14
    try clear c14b0
    try clear c14b1
    try clear c14b2
    try clear c16
    try clear c17
    try clear c19
    try clear c23
    try clear c24
    try clear c26
    try clear hcz10_0
    try clear hcz10_1
    try clear hcz12_0
    try clear hcz12_1
    try clear hcz18_0
    try clear hcz18_1
    try clear hcz20_0
    try clear hcz20_1
    try clear hcz25_0
    try clear hcz25_1
    try clear hcz27_0
    try clear hcz27_1
    try clear hfz10_0
    try clear hfz10_1
    try clear hfz12_0
    try clear hfz12_1
    try clear hfz18_0
    try clear hfz18_1
    try clear hfz20_0
    try clear hfz20_1
    try clear hfz25_0
    try clear hfz25_1
    try clear hfz27_0
    try clear hfz27_1
    obtain ⟨kq, x24_3, rfl, HA, HJ3, HO_5, BK538, BK539, BK540, HB⟩ := hcut
    cases kq with
    | zero => exact absurd HA.out (by simp [computusref01_Over.j0])
    | succ kj3 =>
      have H := HA.out
      clear HA
      simp only [computusref01_Over.j0] at H
      by_cases c28 : x24_3 = true
      · subst c28
        have H1 : ((computusref01_Of.f 1).bind fun bt548 => ((computusref01_add.f kj3 t541 bt548.2).bind fun t552 => (if (a0_0 != a1_0) = true then ((computusref01_zero.f kj3 t552).bind fun t555 => (some (!t555, t552))) else (some (false, t552))))) = some (r1, r2) := by rw [if_pos rfl] at H; exact H
        clear H
        have H := H1
        clear H1
        replace H := Option.bind_eq_some_iff.mp H
        obtain ⟨⟨t548, t549⟩, A290, H⟩ := H
        replace H : ((computusref01_add.f kj3 t541 t549).bind fun t552 => (if (a0_0 != a1_0) = true then ((computusref01_zero.f kj3 t552).bind fun t555 => (some (!t555, t552))) else (some (false, t552)))) = some (r1, r2) := H
        have A29 := Aside0.mk A290
        clear A290
        replace H := Option.bind_eq_some_iff.mp H
        obtain ⟨t552, A300, H⟩ := H
        replace H : (if (a0_0 != a1_0) = true then ((computusref01_zero.f kj3 t552).bind fun t555 => (some (!t555, t552))) else (some (false, t552))) = some (r1, r2) := H
        have A30 := Aside0.mk A300
        clear A300
        by_cases c31 : (a0_0 != a1_0) = true
        · rw [if_pos c31] at H
          have c31b0 : (a0_0 != a1_0) = true := c31
          (try (have c31b1 : decide (a0_0 = a1_0) = false := by simpa using c31))
          (try (have c31b2 : (a0_0 == a1_0) = false := by simpa using c31))
          (try (have c31b3 : ¬ (a0_0 = a1_0) := by simpa using c31))
          clear c31
          replace H := Option.bind_eq_some_iff.mp H
          obtain ⟨t555, A320, H⟩ := H
          replace H : (some (!t555, t552)) = some (r1, r2) := H
          have A32 := Aside0.mk A320
          clear A320
          simp only [Option.some.injEq, Prod.mk.injEq] at H
          obtain ⟨rfl, rfl⟩ := H
          go_wp2_with (first | ((with_reducible refine kL (f := 71) rfl ?_); refine goesL_ (some 26) rfl rfl Try.func71 (by kernel_rfl) rfl #[.int .i64 1] rfl (by (try simp only [List.map_toArray, List.map_cons, List.map_nil]); first | done | rfl | (simp only [List.length_drop, List.length_take]; rfl)) ?_; (with_reducible refine (computusref01_Of.calls 1 t548 t549 _ A29.out).mono ?_); rintro e w33 ⟨v550, rfl, ho0, hb⟩; refine ⟨_, rfl, ?_⟩; have n0_ := Aside0.mk (Kd.R_elder' (by (with_reducible repeat (first | apply Kd.R_alloc | apply Kd.R_drewN | apply Kd.R_drew)); exact HO_5.out) (Kd.R_base ho0) hb); have n1_ := Aside0.mk (Kd.R_lower (Kd.R_new' ho0 (Kd.R_lt (by (with_reducible repeat (first | apply Kd.R_alloc | apply Kd.R_drewN | apply Kd.R_drew)); exact HO_5.out))) (kK (by repeat (first | (with_reducible first | exact HB.out | apply kG | apply kD | apply kF | refine kA ?_ GE538.out | refine kA ?_ GE539.out | refine kA ?_ GE540.out) | exact HB.out)))); have n2_ := Aside0.mk (kI (g := gb538) (o := .cells #[.bool a0_0, .slice A0_1 l0_1.length c0_1] 70 (0, 0)) (by (with_reducible repeat (first | refine kB ?_ _ | refine kE ?_ | refine kC ?_ _)); exact BK538.out) hb); have n3_ := Aside0.mk (kI (g := gb539) (o := .cells #[.bool a1_0, .slice A1_1 l1_1.length c1_1] 70 (0, 0)) (by (with_reducible repeat (first | refine kB ?_ _ | refine kE ?_ | refine kC ?_ _)); exact BK539.out) hb); have n4_ := Aside0.mk (kI (g := gb540) (o := .cells #[.bool false, .slice none 0 0] 70 (0, 0)) (by (with_reducible repeat (first | refine kB ?_ _ | refine kE ?_ | refine kC ?_ _)); exact BK540.out) hb); have n5_ := Aside0.mk (kM (by repeat (first | (with_reducible first | exact HB.out | apply kG | apply kD | apply kF | refine kA ?_ GE538.out | refine kA ?_ GE539.out | refine kA ?_ GE540.out) | exact HB.out)) hb); clear HO_5; clear BK538; clear BK539; clear BK540; clear HB; have HO_5 := n0_; have HO551 := n1_; have BK538 := n2_; have BK539 := n3_; have BK540 := n4_; have HB := n5_; clear n0_ n1_ n2_ n3_ n4_ n5_; (try clear hb); (try clear hb2); (try clear hk); (try clear hi); (try clear ho0); obtain ⟨Ao34, co34, eo34⟩ := Kd.R_slice HO_5.out; subst eo34; obtain ⟨Ao35, co35, eo35⟩ := Kd.R_slice HO551.out; subst eo35) | ((with_reducible refine kL (f := 84) rfl ?_); refine goesL_ (some 28) rfl rfl Try.func84 (by kernel_rfl) rfl #[.slice Ao34 t541.length co34, .slice Ao35 t549.length co35] rfl (by (try simp only [List.map_toArray, List.map_cons, List.map_nil]); first | done | rfl | (simp only [List.length_drop, List.length_take]; rfl)) ?_; (with_reducible refine (computusref01_add.calls kj3 _ _ t541 _ _ t549 t552 _ ?side1 ?side2 ?side3 ?side4 A30.out).mono ?_); (case side1 => repeat (first | exact (Kd.R_reads' HO_5.out).2.2 | (with_reducible refine Kd.C_alloc ?_ _) | (with_reducible refine Kd.C_drewN ?_ _) | (with_reducible refine Kd.C_drew ?_))); (case side2 => exact (Kd.R_reads' HO_5.out).2.1); (case side3 => repeat (first | exact (Kd.R_reads' HO551.out).2.2 | (with_reducible refine Kd.C_alloc ?_ _) | (with_reducible refine Kd.C_drewN ?_ _) | (with_reducible refine Kd.C_drew ?_))); (case side4 => exact (Kd.R_reads' HO551.out).2.1); rintro e w36 ⟨v553, rfl, ho0, hb⟩; refine ⟨_, rfl, ?_⟩; have n0_ := Aside0.mk (Kd.R_elder' (by (with_reducible repeat (first | apply Kd.R_alloc | apply Kd.R_drewN | apply Kd.R_drew)); exact HO_5.out) (Kd.R_base ho0) hb); have n1_ := Aside0.mk (Kd.R_elder' (by (with_reducible repeat (first | apply Kd.R_alloc | apply Kd.R_drewN | apply Kd.R_drew)); exact HO551.out) (Kd.R_base ho0) hb); have n2_ := Aside0.mk (Kd.R_lower (Kd.R_new' (Kd.R_new' ho0 (Kd.R_lt (by (with_reducible repeat (first | apply Kd.R_alloc | apply Kd.R_drewN | apply Kd.R_drew)); exact HO_5.out))) (Kd.R_lt (by (with_reducible repeat (first | apply Kd.R_alloc | apply Kd.R_drewN | apply Kd.R_drew)); exact HO551.out))) (kK (by repeat (first | (with_reducible first | exact HB.out | apply kG | apply kD | apply kF | refine kA ?_ GE538.out | refine kA ?_ GE539.out | refine kA ?_ GE540.out) | exact HB.out)))); have n3_ := Aside0.mk (kI (g := gb538) (o := .cells #[.bool a0_0, .slice A0_1 l0_1.length c0_1] 70 (0, 0)) (by (with_reducible repeat (first | refine kB ?_ _ | refine kE ?_ | refine kC ?_ _)); exact BK538.out) hb); have n4_ := Aside0.mk (kI (g := gb539) (o := .cells #[.bool a1_0, .slice A1_1 l1_1.length c1_1] 70 (0, 0)) (by (with_reducible repeat (first | refine kB ?_ _ | refine kE ?_ | refine kC ?_ _)); exact BK539.out) hb); have n5_ := Aside0.mk (kI (g := gb540) (o := .cells #[.bool false, .slice none 0 0] 70 (0, 0)) (by (with_reducible repeat (first | refine kB ?_ _ | refine kE ?_ | refine kC ?_ _)); exact BK540.out) hb); have n6_ := Aside0.mk (kM (by repeat (first | (with_reducible first | exact HB.out | apply kG | apply kD | apply kF | refine kA ?_ GE538.out | refine kA ?_ GE539.out | refine kA ?_ GE540.out) | exact HB.out)) hb); clear HO_5; clear HO551; clear BK538; clear BK539; clear BK540; clear HB; have HO_5 := n0_; have HO551 := n1_; have HO554 := n2_; have BK538 := n3_; have BK539 := n4_; have BK540 := n5_; have HB := n6_; clear n0_ n1_ n2_ n3_ n4_ n5_ n6_; (try clear hb); (try clear hb2); (try clear hk); (try clear hi); (try clear ho0); have hnb37 := NB538_539.out; have hnc37 := NB539_538.out; have hnb38 := NB538_540.out; have hnc38 := NB540_538.out; have hcz39_0 : w36.cell? ⟨gb538, 0, none⟩ = some (.bool a0_0) := (kH BK538.out 0).trans rfl; have hcz39_1 : w36.cell? ⟨gb538, 1, none⟩ = some (.slice A0_1 l0_1.length c0_1) := (kH BK538.out 1).trans rfl; have hfz39_0 := kJ BK538.out 0; have hfz39_1 := kJ BK538.out 1; have hnb40 := NB539_540.out; have hnc40 := NB540_539.out; have hcz41_0 : w36.cell? ⟨gb539, 0, none⟩ = some (.bool a1_0) := (kH BK539.out 0).trans rfl; have hcz41_1 : w36.cell? ⟨gb539, 1, none⟩ = some (.slice A1_1 l1_1.length c1_1) := (kH BK539.out 1).trans rfl; have hfz41_0 := kJ BK539.out 0; have hfz41_1 := kJ BK539.out 1; obtain ⟨Ao42, co42, eo42⟩ := Kd.R_slice HO554.out; subst eo42) | (go_at_call 96; (with_reducible refine (computusref01_zero.calls kj3 _ _ t552 t555 _ ?side1 ?side2 A32.out).mono ?_); (case side1 => repeat (first | exact (Kd.R_reads' HO554.out).2.2 | (with_reducible refine Kd.C_alloc ?_ _) | (with_reducible refine Kd.C_drewN ?_ _) | (with_reducible refine Kd.C_drew ?_))); (case side2 => exact (Kd.R_reads' HO554.out).2.1); rintro e w43 ⟨rfl, hb⟩; have n0_ := Aside0.mk (Kd.R_below (by (with_reducible repeat (first | apply Kd.R_alloc | apply Kd.R_drewN | apply Kd.R_drew)); exact HO_5.out) hb); have n1_ := Aside0.mk (Kd.R_below (by (with_reducible repeat (first | apply Kd.R_alloc | apply Kd.R_drewN | apply Kd.R_drew)); exact HO551.out) hb); have n2_ := Aside0.mk (Kd.R_below (by (with_reducible repeat (first | apply Kd.R_alloc | apply Kd.R_drewN | apply Kd.R_drew)); exact HO554.out) hb); have n3_ := Aside0.mk (kI (g := gb538) (o := .cells #[.bool a0_0, .slice A0_1 l0_1.length c0_1] 70 (0, 0)) (by (with_reducible repeat (first | refine kB ?_ _ | refine kE ?_ | refine kC ?_ _)); exact BK538.out) hb); have n4_ := Aside0.mk (kI (g := gb539) (o := .cells #[.bool a1_0, .slice A1_1 l1_1.length c1_1] 70 (0, 0)) (by (with_reducible repeat (first | refine kB ?_ _ | refine kE ?_ | refine kC ?_ _)); exact BK539.out) hb); have n5_ := Aside0.mk (kI (g := gb540) (o := .cells #[.bool false, .slice none 0 0] 70 (0, 0)) (by (with_reducible repeat (first | refine kB ?_ _ | refine kE ?_ | refine kC ?_ _)); exact BK540.out) hb); have n6_ := Aside0.mk (kM (by repeat (first | (with_reducible first | exact HB.out | apply kG | apply kD | apply kF | refine kA ?_ GE538.out | refine kA ?_ GE539.out | refine kA ?_ GE540.out) | exact HB.out)) hb); clear HO_5; clear HO551; clear HO554; clear BK538; clear BK539; clear BK540; clear HB; have HO_5 := n0_; have HO551 := n1_; have HO554 := n2_; have BK538 := n3_; have BK539 := n4_; have BK540 := n5_; have HB := n6_; clear n0_ n1_ n2_ n3_ n4_ n5_ n6_; (try clear hb); (try clear hb2); (try clear hk); (try clear hi); have hcz44_0 : w43.cell? ⟨gb540, 0, none⟩ = some (.bool false) := (kH BK540.out 0).trans rfl; have hcz44_1 : w43.cell? ⟨gb540, 1, none⟩ = some (.slice none 0 0) := (kH BK540.out 1).trans rfl; have hfz44_0 := kJ BK540.out 0; have hfz44_1 := kJ BK540.out 1))
          refine bodyPost_ret (results_cell_row rfl _ _ gb540 70 #[.bool (!t555), .slice Ao42 t552.length co42] (0, 0) _ rfl (by (with_reducible repeat (first | refine kB ?_ _ | refine kE ?_ | refine kC ?_ _)); refine blk_put (cs := #[.bool (!t555), .slice none 0 0]) ?_ 1 _ rfl; (with_reducible repeat (first | refine kB ?_ _ | refine kE ?_ | refine kC ?_ _)); refine blk_put (cs := #[.bool false, .slice none 0 0]) ?_ 0 _ rfl; (with_reducible repeat (first | refine kB ?_ _ | refine kE ?_ | refine kC ?_ _)); exact BK540.out) Try.underlying70 rfl (by kernel_rfl)) rfl ?_
          exact ⟨_, by first | rfl | (simp [errW_none, errW_some] <;> rfl) | (simp [*, errW_none, errW_some] <;> rfl), by (with_reducible repeat (first | apply Kd.R_alloc | apply Kd.R_drewN | apply Kd.R_drew)); exact Kd.R_mono (Kd.R_far (p := ⟨gb540, 1, none⟩) (Kd.R_far (p := ⟨gb540, 0, none⟩) (Kd.R_types HO554.out BK540.out (by decide)) (fun _ hk => hk.2) (.bool (!t555))) (fun _ hk => hk.2) (.slice Ao42 t552.length co42)) (fun _ hk => trivial), by repeat (first | (with_reducible first | exact HB.out | apply kG | apply kD | apply kF | refine kA ?_ GE538.out | refine kA ?_ GE539.out | refine kA ?_ GE540.out) | exact HB.out)⟩
        · rw [if_neg c31] at H
          have c31b0 : (a0_0 != a1_0) = false := by simpa using c31
          (try (have c31b1 : decide (a0_0 = a1_0) = true := by simpa using c31))
          (try (have c31b2 : (a0_0 == a1_0) = true := by simpa using c31))
          clear c31
          simp only [Option.some.injEq, Prod.mk.injEq] at H
          obtain ⟨rfl, rfl⟩ := H
          go_wp2_with (first | ((with_reducible refine kL (f := 71) rfl ?_); refine goesL_ (some 26) rfl rfl Try.func71 (by kernel_rfl) rfl #[.int .i64 1] rfl (by (try simp only [List.map_toArray, List.map_cons, List.map_nil]); first | done | rfl | (simp only [List.length_drop, List.length_take]; rfl)) ?_; (with_reducible refine (computusref01_Of.calls 1 t548 t549 _ A29.out).mono ?_); rintro e w45 ⟨v550, rfl, ho0, hb⟩; refine ⟨_, rfl, ?_⟩; have n0_ := Aside0.mk (Kd.R_elder' (by (with_reducible repeat (first | apply Kd.R_alloc | apply Kd.R_drewN | apply Kd.R_drew)); exact HO_5.out) (Kd.R_base ho0) hb); have n1_ := Aside0.mk (Kd.R_lower (Kd.R_new' ho0 (Kd.R_lt (by (with_reducible repeat (first | apply Kd.R_alloc | apply Kd.R_drewN | apply Kd.R_drew)); exact HO_5.out))) (kK (by repeat (first | (with_reducible first | exact HB.out | apply kG | apply kD | apply kF | refine kA ?_ GE538.out | refine kA ?_ GE539.out | refine kA ?_ GE540.out) | exact HB.out)))); have n2_ := Aside0.mk (kI (g := gb538) (o := .cells #[.bool a0_0, .slice A0_1 l0_1.length c0_1] 70 (0, 0)) (by (with_reducible repeat (first | refine kB ?_ _ | refine kE ?_ | refine kC ?_ _)); exact BK538.out) hb); have n3_ := Aside0.mk (kI (g := gb539) (o := .cells #[.bool a1_0, .slice A1_1 l1_1.length c1_1] 70 (0, 0)) (by (with_reducible repeat (first | refine kB ?_ _ | refine kE ?_ | refine kC ?_ _)); exact BK539.out) hb); have n4_ := Aside0.mk (kI (g := gb540) (o := .cells #[.bool false, .slice none 0 0] 70 (0, 0)) (by (with_reducible repeat (first | refine kB ?_ _ | refine kE ?_ | refine kC ?_ _)); exact BK540.out) hb); have n5_ := Aside0.mk (kM (by repeat (first | (with_reducible first | exact HB.out | apply kG | apply kD | apply kF | refine kA ?_ GE538.out | refine kA ?_ GE539.out | refine kA ?_ GE540.out) | exact HB.out)) hb); clear HO_5; clear BK538; clear BK539; clear BK540; clear HB; have HO_5 := n0_; have HO551 := n1_; have BK538 := n2_; have BK539 := n3_; have BK540 := n4_; have HB := n5_; clear n0_ n1_ n2_ n3_ n4_ n5_; (try clear hb); (try clear hb2); (try clear hk); (try clear hi); (try clear ho0); obtain ⟨Ao46, co46, eo46⟩ := Kd.R_slice HO_5.out; subst eo46; obtain ⟨Ao47, co47, eo47⟩ := Kd.R_slice HO551.out; subst eo47) | ((with_reducible refine kL (f := 84) rfl ?_); refine goesL_ (some 28) rfl rfl Try.func84 (by kernel_rfl) rfl #[.slice Ao46 t541.length co46, .slice Ao47 t549.length co47] rfl (by (try simp only [List.map_toArray, List.map_cons, List.map_nil]); first | done | rfl | (simp only [List.length_drop, List.length_take]; rfl)) ?_; (with_reducible refine (computusref01_add.calls kj3 _ _ t541 _ _ t549 t552 _ ?side1 ?side2 ?side3 ?side4 A30.out).mono ?_); (case side1 => repeat (first | exact (Kd.R_reads' HO_5.out).2.2 | (with_reducible refine Kd.C_alloc ?_ _) | (with_reducible refine Kd.C_drewN ?_ _) | (with_reducible refine Kd.C_drew ?_))); (case side2 => exact (Kd.R_reads' HO_5.out).2.1); (case side3 => repeat (first | exact (Kd.R_reads' HO551.out).2.2 | (with_reducible refine Kd.C_alloc ?_ _) | (with_reducible refine Kd.C_drewN ?_ _) | (with_reducible refine Kd.C_drew ?_))); (case side4 => exact (Kd.R_reads' HO551.out).2.1); rintro e w48 ⟨v553, rfl, ho0, hb⟩; refine ⟨_, rfl, ?_⟩; have n0_ := Aside0.mk (Kd.R_elder' (by (with_reducible repeat (first | apply Kd.R_alloc | apply Kd.R_drewN | apply Kd.R_drew)); exact HO_5.out) (Kd.R_base ho0) hb); have n1_ := Aside0.mk (Kd.R_elder' (by (with_reducible repeat (first | apply Kd.R_alloc | apply Kd.R_drewN | apply Kd.R_drew)); exact HO551.out) (Kd.R_base ho0) hb); have n2_ := Aside0.mk (Kd.R_lower (Kd.R_new' (Kd.R_new' ho0 (Kd.R_lt (by (with_reducible repeat (first | apply Kd.R_alloc | apply Kd.R_drewN | apply Kd.R_drew)); exact HO_5.out))) (Kd.R_lt (by (with_reducible repeat (first | apply Kd.R_alloc | apply Kd.R_drewN | apply Kd.R_drew)); exact HO551.out))) (kK (by repeat (first | (with_reducible first | exact HB.out | apply kG | apply kD | apply kF | refine kA ?_ GE538.out | refine kA ?_ GE539.out | refine kA ?_ GE540.out) | exact HB.out)))); have n3_ := Aside0.mk (kI (g := gb538) (o := .cells #[.bool a0_0, .slice A0_1 l0_1.length c0_1] 70 (0, 0)) (by (with_reducible repeat (first | refine kB ?_ _ | refine kE ?_ | refine kC ?_ _)); exact BK538.out) hb); have n4_ := Aside0.mk (kI (g := gb539) (o := .cells #[.bool a1_0, .slice A1_1 l1_1.length c1_1] 70 (0, 0)) (by (with_reducible repeat (first | refine kB ?_ _ | refine kE ?_ | refine kC ?_ _)); exact BK539.out) hb); have n5_ := Aside0.mk (kI (g := gb540) (o := .cells #[.bool false, .slice none 0 0] 70 (0, 0)) (by (with_reducible repeat (first | refine kB ?_ _ | refine kE ?_ | refine kC ?_ _)); exact BK540.out) hb); have n6_ := Aside0.mk (kM (by repeat (first | (with_reducible first | exact HB.out | apply kG | apply kD | apply kF | refine kA ?_ GE538.out | refine kA ?_ GE539.out | refine kA ?_ GE540.out) | exact HB.out)) hb); clear HO_5; clear HO551; clear BK538; clear BK539; clear BK540; clear HB; have HO_5 := n0_; have HO551 := n1_; have HO554 := n2_; have BK538 := n3_; have BK539 := n4_; have BK540 := n5_; have HB := n6_; clear n0_ n1_ n2_ n3_ n4_ n5_ n6_; (try clear hb); (try clear hb2); (try clear hk); (try clear hi); (try clear ho0); have hnb49 := NB538_539.out; have hnc49 := NB539_538.out; have hnb50 := NB538_540.out; have hnc50 := NB540_538.out; have hcz51_0 : w48.cell? ⟨gb538, 0, none⟩ = some (.bool a0_0) := (kH BK538.out 0).trans rfl; have hcz51_1 : w48.cell? ⟨gb538, 1, none⟩ = some (.slice A0_1 l0_1.length c0_1) := (kH BK538.out 1).trans rfl; have hfz51_0 := kJ BK538.out 0; have hfz51_1 := kJ BK538.out 1; have hnb52 := NB539_540.out; have hnc52 := NB540_539.out; have hcz53_0 : w48.cell? ⟨gb539, 0, none⟩ = some (.bool a1_0) := (kH BK539.out 0).trans rfl; have hcz53_1 : w48.cell? ⟨gb539, 1, none⟩ = some (.slice A1_1 l1_1.length c1_1) := (kH BK539.out 1).trans rfl; have hfz53_0 := kJ BK539.out 0; have hfz53_1 := kJ BK539.out 1; obtain ⟨Ao54, co54, eo54⟩ := Kd.R_slice HO554.out; subst eo54; have hcz55_0 : w48.cell? ⟨gb540, 0, none⟩ = some (.bool false) := (kH BK540.out 0).trans rfl; have hcz55_1 : w48.cell? ⟨gb540, 1, none⟩ = some (.slice none 0 0) := (kH BK540.out 1).trans rfl; have hfz55_0 := kJ BK540.out 0; have hfz55_1 := kJ BK540.out 1))
          refine bodyPost_ret (results_cell_row rfl _ _ gb540 70 #[.bool false, .slice Ao54 t552.length co54] (0, 0) _ rfl (by (with_reducible repeat (first | refine kB ?_ _ | refine kE ?_ | refine kC ?_ _)); refine blk_put (cs := #[.bool false, .slice none 0 0]) ?_ 1 _ rfl; (with_reducible repeat (first | refine kB ?_ _ | refine kE ?_ | refine kC ?_ _)); refine blk_put (cs := #[.bool false, .slice none 0 0]) ?_ 0 _ rfl; (with_reducible repeat (first | refine kB ?_ _ | refine kE ?_ | refine kC ?_ _)); exact BK540.out) Try.underlying70 rfl (by kernel_rfl)) rfl ?_
          exact ⟨_, by first | rfl | (simp [errW_none, errW_some] <;> rfl) | (simp [*, errW_none, errW_some] <;> rfl), by (with_reducible repeat (first | apply Kd.R_alloc | apply Kd.R_drewN | apply Kd.R_drew)); exact Kd.R_mono (Kd.R_far (p := ⟨gb540, 1, none⟩) (Kd.R_far (p := ⟨gb540, 0, none⟩) (Kd.R_types HO554.out BK540.out (by decide)) (fun _ hk => hk.2) (.bool false)) (fun _ hk => hk.2) (.slice Ao54 t552.length co54)) (fun _ hk => trivial), by repeat (first | (with_reducible first | exact HB.out | apply kG | apply kD | apply kF | refine kA ?_ GE538.out | refine kA ?_ GE539.out | refine kA ?_ GE540.out) | exact HB.out)⟩
      · replace c28 := Bool.eq_false_iff.mpr c28
        subst c28
        have H1 : (if (a0_0 != a1_0) = true then ((computusref01_zero.f kj3 t541).bind fun t556 => (some (!t556, t541))) else (some (false, t541))) = some (r1, r2) := by rw [if_neg (show ¬ (false = true) by decide)] at H; exact H
        clear H
        have H := H1
        clear H1
        by_cases c56 : (a0_0 != a1_0) = true
        · rw [if_pos c56] at H
          have c56b0 : (a0_0 != a1_0) = true := c56
          (try (have c56b1 : decide (a0_0 = a1_0) = false := by simpa using c56))
          (try (have c56b2 : (a0_0 == a1_0) = false := by simpa using c56))
          (try (have c56b3 : ¬ (a0_0 = a1_0) := by simpa using c56))
          clear c56
          replace H := Option.bind_eq_some_iff.mp H
          obtain ⟨t556, A570, H⟩ := H
          replace H : (some (!t556, t541)) = some (r1, r2) := H
          have A57 := Aside0.mk A570
          clear A570
          simp only [Option.some.injEq, Prod.mk.injEq] at H
          obtain ⟨rfl, rfl⟩ := H
          have hnb58 := NB538_539.out
          have hnc58 := NB539_538.out
          have hnb59 := NB538_540.out
          have hnc59 := NB540_538.out
          have hcz60_0 : wc.cell? ⟨gb538, 0, none⟩ = some (.bool a0_0) := (kH BK538.out 0).trans rfl
          have hcz60_1 : wc.cell? ⟨gb538, 1, none⟩ = some (.slice A0_1 l0_1.length c0_1) := (kH BK538.out 1).trans rfl
          have hfz60_0 := kJ BK538.out 0
          have hfz60_1 := kJ BK538.out 1
          have hnb61 := NB539_540.out
          have hnc61 := NB540_539.out
          have hcz62_0 : wc.cell? ⟨gb539, 0, none⟩ = some (.bool a1_0) := (kH BK539.out 0).trans rfl
          have hcz62_1 : wc.cell? ⟨gb539, 1, none⟩ = some (.slice A1_1 l1_1.length c1_1) := (kH BK539.out 1).trans rfl
          have hfz62_0 := kJ BK539.out 0
          have hfz62_1 := kJ BK539.out 1
          obtain ⟨Ao63, co63, eo63⟩ := Kd.R_slice HO_5.out
          subst eo63
          go_wp2_with (first | (go_at_call 96; (with_reducible refine (computusref01_zero.calls kj3 _ _ t541 t556 _ ?side1 ?side2 A57.out).mono ?_); (case side1 => repeat (first | exact (Kd.R_reads' HO_5.out).2.2 | (with_reducible refine Kd.C_alloc ?_ _) | (with_reducible refine Kd.C_drewN ?_ _) | (with_reducible refine Kd.C_drew ?_))); (case side2 => exact (Kd.R_reads' HO_5.out).2.1); rintro e w64 ⟨rfl, hb⟩; have n0_ := Aside0.mk (Kd.R_below (by (with_reducible repeat (first | apply Kd.R_alloc | apply Kd.R_drewN | apply Kd.R_drew)); exact HO_5.out) hb); have n1_ := Aside0.mk (kI (g := gb538) (o := .cells #[.bool a0_0, .slice A0_1 l0_1.length c0_1] 70 (0, 0)) (by (with_reducible repeat (first | refine kB ?_ _ | refine kE ?_ | refine kC ?_ _)); exact BK538.out) hb); have n2_ := Aside0.mk (kI (g := gb539) (o := .cells #[.bool a1_0, .slice A1_1 l1_1.length c1_1] 70 (0, 0)) (by (with_reducible repeat (first | refine kB ?_ _ | refine kE ?_ | refine kC ?_ _)); exact BK539.out) hb); have n3_ := Aside0.mk (kI (g := gb540) (o := .cells #[.bool false, .slice none 0 0] 70 (0, 0)) (by (with_reducible repeat (first | refine kB ?_ _ | refine kE ?_ | refine kC ?_ _)); exact BK540.out) hb); have n4_ := Aside0.mk (kM (by repeat (first | (with_reducible first | exact HB.out | apply kG | apply kD | apply kF | refine kA ?_ GE538.out | refine kA ?_ GE539.out | refine kA ?_ GE540.out) | exact HB.out)) hb); clear HO_5; clear BK538; clear BK539; clear BK540; clear HB; have HO_5 := n0_; have BK538 := n1_; have BK539 := n2_; have BK540 := n3_; have HB := n4_; clear n0_ n1_ n2_ n3_ n4_; (try clear hb); (try clear hb2); (try clear hk); (try clear hi); have hcz65_0 : w64.cell? ⟨gb540, 0, none⟩ = some (.bool false) := (kH BK540.out 0).trans rfl; have hcz65_1 : w64.cell? ⟨gb540, 1, none⟩ = some (.slice none 0 0) := (kH BK540.out 1).trans rfl; have hfz65_0 := kJ BK540.out 0; have hfz65_1 := kJ BK540.out 1))
          refine bodyPost_ret (results_cell_row rfl _ _ gb540 70 #[.bool (!t556), .slice Ao63 t541.length co63] (0, 0) _ rfl (by (with_reducible repeat (first | refine kB ?_ _ | refine kE ?_ | refine kC ?_ _)); refine blk_put (cs := #[.bool (!t556), .slice none 0 0]) ?_ 1 _ rfl; (with_reducible repeat (first | refine kB ?_ _ | refine kE ?_ | refine kC ?_ _)); refine blk_put (cs := #[.bool false, .slice none 0 0]) ?_ 0 _ rfl; (with_reducible repeat (first | refine kB ?_ _ | refine kE ?_ | refine kC ?_ _)); exact BK540.out) Try.underlying70 rfl (by kernel_rfl)) rfl ?_
          exact ⟨_, by first | rfl | (simp [errW_none, errW_some] <;> rfl) | (simp [*, errW_none, errW_some] <;> rfl), by (with_reducible repeat (first | apply Kd.R_alloc | apply Kd.R_drewN | apply Kd.R_drew)); exact Kd.R_mono (Kd.R_far (p := ⟨gb540, 1, none⟩) (Kd.R_far (p := ⟨gb540, 0, none⟩) (Kd.R_types HO_5.out BK540.out (by decide)) (fun _ hk => hk.2) (.bool (!t556))) (fun _ hk => hk.2) (.slice Ao63 t541.length co63)) (fun _ hk => trivial), by repeat (first | (with_reducible first | exact HB.out | apply kG | apply kD | apply kF | refine kA ?_ GE538.out | refine kA ?_ GE539.out | refine kA ?_ GE540.out) | exact HB.out)⟩
        · rw [if_neg c56] at H
          have c56b0 : (a0_0 != a1_0) = false := by simpa using c56
          (try (have c56b1 : decide (a0_0 = a1_0) = true := by simpa using c56))
          (try (have c56b2 : (a0_0 == a1_0) = true := by simpa using c56))
          clear c56
          simp only [Option.some.injEq, Prod.mk.injEq] at H
          obtain ⟨rfl, rfl⟩ := H
          have hnb66 := NB538_539.out
          have hnc66 := NB539_538.out
          have hnb67 := NB538_540.out
          have hnc67 := NB540_538.out
          have hcz68_0 : wc.cell? ⟨gb538, 0, none⟩ = some (.bool a0_0) := (kH BK538.out 0).trans rfl
          have hcz68_1 : wc.cell? ⟨gb538, 1, none⟩ = some (.slice A0_1 l0_1.length c0_1) := (kH BK538.out 1).trans rfl
          have hfz68_0 := kJ BK538.out 0
          have hfz68_1 := kJ BK538.out 1
          have hnb69 := NB539_540.out
          have hnc69 := NB540_539.out
          have hcz70_0 : wc.cell? ⟨gb539, 0, none⟩ = some (.bool a1_0) := (kH BK539.out 0).trans rfl
          have hcz70_1 : wc.cell? ⟨gb539, 1, none⟩ = some (.slice A1_1 l1_1.length c1_1) := (kH BK539.out 1).trans rfl
          have hfz70_0 := kJ BK539.out 0
          have hfz70_1 := kJ BK539.out 1
          obtain ⟨Ao71, co71, eo71⟩ := Kd.R_slice HO_5.out
          subst eo71
          have hcz72_0 : wc.cell? ⟨gb540, 0, none⟩ = some (.bool false) := (kH BK540.out 0).trans rfl
          have hcz72_1 : wc.cell? ⟨gb540, 1, none⟩ = some (.slice none 0 0) := (kH BK540.out 1).trans rfl
          have hfz72_0 := kJ BK540.out 0
          have hfz72_1 := kJ BK540.out 1
          go_wp2
          refine bodyPost_ret (results_cell_row rfl _ _ gb540 70 #[.bool false, .slice Ao71 t541.length co71] (0, 0) _ rfl (by (with_reducible repeat (first | refine kB ?_ _ | refine kE ?_ | refine kC ?_ _)); refine blk_put (cs := #[.bool false, .slice none 0 0]) ?_ 1 _ rfl; (with_reducible repeat (first | refine kB ?_ _ | refine kE ?_ | refine kC ?_ _)); refine blk_put (cs := #[.bool false, .slice none 0 0]) ?_ 0 _ rfl; (with_reducible repeat (first | refine kB ?_ _ | refine kE ?_ | refine kC ?_ _)); exact BK540.out) Try.underlying70 rfl (by kernel_rfl)) rfl ?_
          exact ⟨_, by first | rfl | (simp [errW_none, errW_some] <;> rfl) | (simp [*, errW_none, errW_some] <;> rfl), by (with_reducible repeat (first | apply Kd.R_alloc | apply Kd.R_drewN | apply Kd.R_drew)); exact Kd.R_mono (Kd.R_far (p := ⟨gb540, 1, none⟩) (Kd.R_far (p := ⟨gb540, 0, none⟩) (Kd.R_types HO_5.out BK540.out (by decide)) (fun _ hk => hk.2) (.bool false)) (fun _ hk => hk.2) (.slice Ao71 t541.length co71)) (fun _ hk => trivial), by repeat (first | (with_reducible first | exact HB.out | apply kG | apply kD | apply kF | refine kA ?_ GE538.out | refine kA ?_ GE539.out | refine kA ?_ GE540.out) | exact HB.out)⟩
end Go.Proofs.Ytgjbdojpncmmlaa.P
namespace Go.Proofs.Ytgjbdojpncmmlaa.P
open Go.RowKit Go.Proofs.YtgjbdojpncmmlaaW.PrintWords Go.Proofs.YtgjbdojpncmmlaaW.PrintLast Go.Proofs.YtgjbdojpncmmlaaW.PrintMore
open Go.Proofs.Ytgjbdojpncmmlaa.A
attribute [local go_sem] max2_int min2_int max_two min_two max_three min_three max_four min_four   -- for this text's walks alone
set_option linter.unusedVariables false
set_option linter.unusedSimpArgs false
def computusref01_Div.f (k : Nat) (a0 : Int) (a1 : Int) : Option (Int × Int) := if a1 = 0 then (some (0, 11)) else ((computusref01_Of.f a0).bind fun bt557 => ((computusref01_Of.f a1).bind fun bt561 => ((computusref01_Over.f k bt557.1 bt557.2 bt561.1 bt561.2).bind fun bt565 => ((computusref01_Small.f k bt565.1 bt565.2).bind fun bt569 => (some (bt569.1, bt569.2))))))
set_option maxHeartbeats 8000000 in
set_option maxRecDepth 100000 in
theorem computusref01_Div.calls (k : Nat) (a0 : Int) (a1 : Int) (r1 : Int) (r2 : Int) (w : World) (h : computusref01_Div.f k a0 a1 = some (r1, r2)) :
    Calls Try.prog 76 #[.int .i64 a0, .int .i64 a1] w fun e w' => e = .returned (.tuple #[.int .i64 r1, .int .i64 r2]) ∧ Below w.heap.size w w' := by
  have HB := Aside0.mk (Below.refl w.heap.size w)
  have H : (if a1 = 0 then (some (0, 11)) else ((computusref01_Of.f a0).bind fun bt557 => ((computusref01_Of.f a1).bind fun bt561 => ((computusref01_Over.f k bt557.1 bt557.2 bt561.1 bt561.2).bind fun bt565 => ((computusref01_Small.f k bt565.1 bt565.2).bind fun bt569 => (some (bt569.1, bt569.2))))))) = some (r1, r2) := h
  clear h
  by_cases c3 : a1 = 0
  · rw [if_pos c3] at H
    have c3b0 : (a1 == 0) = true := beq_iff_eq.mpr c3
    have c3b1 : (a1 != 0) = false := bne_eq_false_iff_eq.mpr c3
    clear c3
    simp only [Option.some.injEq, Prod.mk.injEq] at H
    obtain ⟨rfl, rfl⟩ := H
    go_enter Try.func76, Try.ntmps76
    go_wp2
    go_ret2
    exact ⟨by first | rfl | (simp [errW_none, errW_some] <;> rfl) | (simp [*, errW_none, errW_some] <;> rfl), by repeat (first | (with_reducible first | exact HB.out | apply kG | apply kD | apply kF) | exact HB.out)⟩
  · rw [if_neg c3] at H
    have c3b0 : (a1 == 0) = false := beq_eq_false_iff_ne.mpr c3
    have c3b1 : (a1 != 0) = true := bne_iff_ne.mpr c3
    replace H := Option.bind_eq_some_iff.mp H
    obtain ⟨⟨t557, t558⟩, A40, H⟩ := H
    replace H : ((computusref01_Of.f a1).bind fun bt561 => ((computusref01_Over.f k t557 t558 bt561.1 bt561.2).bind fun bt565 => ((computusref01_Small.f k bt565.1 bt565.2).bind fun bt569 => (some (bt569.1, bt569.2))))) = some (r1, r2) := H
    have A4 := Aside0.mk A40
    clear A40
    replace H := Option.bind_eq_some_iff.mp H
    obtain ⟨⟨t561, t562⟩, A50, H⟩ := H
    replace H : ((computusref01_Over.f k t557 t558 t561 t562).bind fun bt565 => ((computusref01_Small.f k bt565.1 bt565.2).bind fun bt569 => (some (bt569.1, bt569.2)))) = some (r1, r2) := H
    have A5 := Aside0.mk A50
    clear A50
    replace H := Option.bind_eq_some_iff.mp H
    obtain ⟨⟨t565, t566⟩, A60, H⟩ := H
    replace H : ((computusref01_Small.f k t565 t566).bind fun bt569 => (some (bt569.1, bt569.2))) = some (r1, r2) := H
    have A6 := Aside0.mk A60
    clear A60
    replace H := Option.bind_eq_some_iff.mp H
    obtain ⟨⟨t569, t570⟩, A70, H⟩ := H
    replace H : (some (t569, t570)) = some (r1, r2) := H
    have A7 := Aside0.mk A70
    clear A70
    simp only [Option.some.injEq, Prod.mk.injEq] at H
    obtain ⟨rfl, rfl⟩ := H
    go_enter Try.func76, Try.ntmps76
    go_wp2_with (first | ((with_reducible refine kL (f := 71) rfl ?_); refine goesL_ (some 9) rfl rfl Try.func71 (by kernel_rfl) rfl #[.int .i64 a0] rfl (by (try simp only [List.map_toArray, List.map_cons, List.map_nil]); first | done | rfl | (simp only [List.length_drop, List.length_take]; rfl)) ?_; (with_reducible refine (computusref01_Of.calls a0 t557 t558 _ A4.out).mono ?_); rintro e w8 ⟨v559, rfl, ho0, hb⟩; refine ⟨_, rfl, ?_⟩; have n0_ := Aside0.mk (Kd.R_lower ho0 (kK (by repeat (first | (with_reducible first | exact HB.out | apply kG | apply kD | apply kF) | exact HB.out)))); have n1_ := Aside0.mk (kM (by repeat (first | (with_reducible first | exact HB.out | apply kG | apply kD | apply kF) | exact HB.out)) hb); clear HB; have HO560 := n0_; have HB := n1_; clear n0_ n1_; (try clear hb); (try clear hb2); (try clear hk); (try clear hi); (try clear ho0)) | ((with_reducible refine kL (f := 71) rfl ?_); refine goesL_ (some 11) rfl rfl Try.func71 (by kernel_rfl) rfl #[.int .i64 a1] rfl (by (try simp only [List.map_toArray, List.map_cons, List.map_nil]); first | done | rfl | (simp only [List.length_drop, List.length_take]; rfl)) ?_; (with_reducible refine (computusref01_Of.calls a1 t561 t562 _ A5.out).mono ?_); rintro e w9 ⟨v563, rfl, ho0, hb⟩; refine ⟨_, rfl, ?_⟩; have n0_ := Aside0.mk (Kd.R_elder' (by (with_reducible repeat (first | apply Kd.R_alloc | apply Kd.R_drewN | apply Kd.R_drew)); exact HO560.out) (Kd.R_base ho0) hb); have n1_ := Aside0.mk (Kd.R_lower (Kd.R_new' ho0 (Kd.R_lt (by (with_reducible repeat (first | apply Kd.R_alloc | apply Kd.R_drewN | apply Kd.R_drew)); exact HO560.out))) (kK (by repeat (first | (with_reducible first | exact HB.out | apply kG | apply kD | apply kF) | exact HB.out)))); have n2_ := Aside0.mk (kM (by repeat (first | (with_reducible first | exact HB.out | apply kG | apply kD | apply kF) | exact HB.out)) hb); clear HO560; clear HB; have HO560 := n0_; have HO564 := n1_; have HB := n2_; clear n0_ n1_ n2_; (try clear hb); (try clear hb2); (try clear hk); (try clear hi); (try clear ho0); obtain ⟨Ao10, co10, eo10⟩ := Kd.R_slice HO560.out; subst eo10; obtain ⟨Ao11, co11, eo11⟩ := Kd.R_slice HO564.out; subst eo11) | ((with_reducible refine kL (f := 90) rfl ?_); refine goesL_ (some 12) rfl rfl Try.func90 (by kernel_rfl) rfl #[.agg #[.bool t557, .slice Ao10 t558.length co10], .agg #[.bool t561, .slice Ao11 t562.length co11]] rfl (by (try simp only [List.map_toArray, List.map_cons, List.map_nil]); first | done | rfl | (simp only [List.length_drop, List.length_take]; rfl)) ?_; (with_reducible refine (computusref01_Over.calls k t557 _ _ t558 t561 _ _ t562 t565 t566 _ ?side1 ?side2 ?side3 ?side4 A6.out).mono ?_); (case side1 => repeat (first | exact (Kd.R_reads' HO560.out).2.2 | (with_reducible refine Kd.C_alloc ?_ _) | (with_reducible refine Kd.C_drewN ?_ _) | (with_reducible refine Kd.C_drew ?_))); (case side2 => exact (Kd.R_reads' HO560.out).2.1); (case side3 => repeat (first | exact (Kd.R_reads' HO564.out).2.2 | (with_reducible refine Kd.C_alloc ?_ _) | (with_reducible refine Kd.C_drewN ?_ _) | (with_reducible refine Kd.C_drew ?_))); (case side4 => exact (Kd.R_reads' HO564.out).2.1); rintro e w12 ⟨v567, rfl, ho0, hb⟩; refine ⟨_, rfl, ?_⟩; have n0_ := Aside0.mk (Kd.R_elder' (by (with_reducible repeat (first | apply Kd.R_alloc | apply Kd.R_drewN | apply Kd.R_drew)); exact HO560.out) (Kd.R_base ho0) hb); have n1_ := Aside0.mk (Kd.R_elder' (by (with_reducible repeat (first | apply Kd.R_alloc | apply Kd.R_drewN | apply Kd.R_drew)); exact HO564.out) (Kd.R_base ho0) hb); have n2_ := Aside0.mk (Kd.R_lower (Kd.R_new' (Kd.R_new' ho0 (Kd.R_lt (by (with_reducible repeat (first | apply Kd.R_alloc | apply Kd.R_drewN | apply Kd.R_drew)); exact HO560.out))) (Kd.R_lt (by (with_reducible repeat (first | apply Kd.R_alloc | apply Kd.R_drewN | apply Kd.R_drew)); exact HO564.out))) (kK (by repeat (first | (with_reducible first | exact HB.out | apply kG | apply kD | apply kF) | exact HB.out)))); have n3_ := Aside0.mk (kM (by repeat (first | (with_reducible first | exact HB.out | apply kG | apply kD | apply kF) | exact HB.out)) hb); clear HO560; clear HO564; clear HB; have HO560 := n0_; have HO564 := n1_; have HO568 := n2_; have HB := n3_; clear n0_ n1_ n2_ n3_; (try clear hb); (try clear hb2); (try clear hk); (try clear hi); (try clear ho0); obtain ⟨Ao13, co13, eo13⟩ := Kd.R_slice HO568.out; subst eo13) | ((with_reducible refine kL (f := 69) rfl ?_); refine goesL_ (some 13) rfl rfl Try.func69 (by kernel_rfl) rfl #[.agg #[.bool t565, .slice Ao13 t566.length co13]] rfl (by (try simp only [List.map_toArray, List.map_cons, List.map_nil]); first | done | rfl | (simp only [List.length_drop, List.length_take]; rfl)) ?_; (with_reducible refine (computusref01_Small.calls k t565 _ _ t566 t569 t570 _ ?side1 ?side2 A7.out).mono ?_); (case side1 => repeat (first | exact (Kd.R_reads' HO568.out).2.2 | (with_reducible refine Kd.C_alloc ?_ _) | (with_reducible refine Kd.C_drewN ?_ _) | (with_reducible refine Kd.C_drew ?_))); (case side2 => exact (Kd.R_reads' HO568.out).2.1); rintro e w14 ⟨rfl, hb⟩; refine ⟨_, rfl, ?_⟩; have n0_ := Aside0.mk (Kd.R_below (by (with_reducible repeat (first | apply Kd.R_alloc | apply Kd.R_drewN | apply Kd.R_drew)); exact HO560.out) hb); have n1_ := Aside0.mk (Kd.R_below (by (with_reducible repeat (first | apply Kd.R_alloc | apply Kd.R_drewN | apply Kd.R_drew)); exact HO564.out) hb); have n2_ := Aside0.mk (Kd.R_below (by (with_reducible repeat (first | apply Kd.R_alloc | apply Kd.R_drewN | apply Kd.R_drew)); exact HO568.out) hb); have n3_ := Aside0.mk (kM (by repeat (first | (with_reducible first | exact HB.out | apply kG | apply kD | apply kF) | exact HB.out)) hb); clear HO560; clear HO564; clear HO568; clear HB; have HO560 := n0_; have HO564 := n1_; have HO568 := n2_; have HB := n3_; clear n0_ n1_ n2_ n3_; (try clear hb); (try clear hb2); (try clear hk); (try clear hi)))
    go_ret2
    exact ⟨by first | rfl | (simp [errW_none, errW_some] <;> rfl) | (simp [*, errW_none, errW_some] <;> rfl), by repeat (first | (with_reducible first | exact HB.out | apply kG | apply kD | apply kF) | exact HB.out)⟩
noncomputable def computusref01_Div.con (k : Nat) : Con
  | [.int .i64 a0, .int .i64 a1] => some ((computusref01_Div.f k a0 a1).isSome, .tup [.int .i64 (gd (computusref01_Div.f k a0 a1)).1, .int .i64 (gd (computusref01_Div.f k a0 a1)).2])
  | _ => none
set_option maxRecDepth 100000 in
theorem computusref01_Div.cok (k : Nat) : COk Try.prog 76 (computusref01_Div.con k) := by
  intro args p v hc hp w A hA
  unfold computusref01_Div.con at hc
  split at hc
  · rename_i a0 a1
    simp only [Option.some.injEq, Prod.mk.injEq] at hc
    obtain ⟨rfl, rfl⟩ := hc
    rcases hf : computusref01_Div.f k a0 a1 with _ | ⟨r1, r2⟩
    · rw [hf] at hp; cases hp
    obtain rfl : A = [.int .i64 a0, .int .i64 a1] := by simpa [rl_cons, rl_nil, rv_int, rv_bool, rv_str, rv_agg, rv_fn] using hA
    exact gives_of_calls (fn := Try.f76) Try.func76 (by kernel_rfl) (by kernel_rfl) (computusref01_Div.calls _ _ _ _ _ w hf) (fun _ => by simp [gd_some, rl_cons, rl_nil, rv_int, rv_bool, rv_str, rv_agg, rv_tup]) (fun _ h => h)
  · cases hc
end Go.Proofs.Ytgjbdojpncmmlaa.P
namespace Go.Proofs.Ytgjbdojpncmmlaa.P
open Go.RowKit Go.Proofs.YtgjbdojpncmmlaaW.PrintWords Go.Proofs.YtgjbdojpncmmlaaW.PrintLast Go.Proofs.YtgjbdojpncmmlaaW.PrintMore
attribute [local go_sem] max2_int min2_int max_two min_two max_three min_three max_four min_four   -- for this text's walks alone
set_option linter.unusedVariables false
set_option linter.unusedSimpArgs false
def computusref01_Minus.f (k : Nat) (a0_0 : Bool) (l0_1 : List Int) : Option (Bool × List Int) := if a0_0 = true then (some (false, l0_1)) else ((computusref01_zero.f k l0_1).bind fun t573 => (some (!t573, l0_1)))
def computusref01_Minus.T1 : Bool × List (List Nat × List Nat) := (true, [([], []), ([0], [0]), ([1], [1]), ([2], [2]), ([3], [3]), ([4, 3], [3, 4]), ([5, 3, 3], [3, 5]), ([6, 3], [3, 6]), ([3, 7], [3, 7]), ([], []), ([9], [9]), ([8, 10], [8, 10]), ([11, 6, 0, 1, 2, 3, 4, 5, 6, 7, 8, 9, 10, 11], [11])])
def computusref01_Minus.B1 : List Nat := [0, 1, 3, 7, 15, 31, 63, 127, 255, 0, 512, 2047, 4095]
theorem computusref01_Minus.tab1 : rtab .any (opsOf Try.f91 1) = computusref01_Minus.T1 := by kernel_rfl
theorem computusref01_Minus.bits1 : waitsOk computusref01_Minus.T1.2 computusref01_Minus.B1 = true := by kernel_rfl
set_option maxHeartbeats 8000000 in
set_option maxRecDepth 100000 in
theorem computusref01_Minus.calls (k : Nat) (a0_0 : Bool) (P0_1_ : Nat → Prop) (u9000_ : Value) (l0_1 : List Int) (r1 : Bool) (r2 : List Int) (w0 w : World) (hB : Below w0.heap.size w0 w) (ho0_1 : Kd.R (Kd.int .u64) 75 w w0.heap.size P0_1_ u9000_ l0_1) (h : computusref01_Minus.f k a0_0 l0_1 = some (r1, r2)) :
    Calls Try.prog 91 #[.agg #[.bool a0_0, u9000_]] w fun e w' => ∃ v1_ : Value, e = .returned (.agg #[.bool r1, v1_]) ∧ Kd.R (Kd.int .u64) 75 w' w0.heap.size (fun k_ => (P0_1_ k_ ∨ w.heap.size ≤ k_)) v1_ r2 ∧ Below w0.heap.size w0 w' ∧ Kept w w' (fun k_ => P0_1_ k_) := by
  have hu70 := Try.underlying70
  have HO0_1 := Aside0.mk (show Kd.R (Kd.int .u64) 75 w w0.heap.size (fun k_ => (P0_1_ k_ ∨ w.heap.size ≤ k_)) u9000_ l0_1 from Kd.R_mono ho0_1 (fun k_ hk => (.inl hk)))
  have HK := Aside0.mk (Kept.refl w (fun k_ => P0_1_ k_))
  have HW0 := Aside0.mk hB.size
  have HB := Aside0.mk hB
  clear hB
  have H : (if a0_0 = true then (some (false, l0_1)) else ((computusref01_zero.f k l0_1).bind fun t573 => (some (!t573, l0_1)))) = some (r1, r2) := h
  clear h
  by_cases c2 : a0_0 = true
  · subst c2
    have H1 : (some (false, l0_1)) = some (r1, r2) := by rw [if_pos rfl] at H; exact H
    clear H
    have H := H1
    clear H1
    simp only [Option.some.injEq, Prod.mk.injEq] at H
    obtain ⟨rfl, rfl⟩ := H
    obtain ⟨Ao3, co3, eo3⟩ := Kd.R_slice HO0_1.out
    subst eo3
    go_enter Try.func91, Try.ntmps91
    try go_wp2_with (first | ((with_reducible refine gate_dst (N := 1) rfl ?_); refine box_event ?hg (N := 1) ?hd (cs := #[.bool true, .slice Ao3 l0_1.length co3]) (t := 70) ?hr ?_; (case hd => rfl); (case hg => rfl); (case hr => first | (go_simp; done) | (go_simp; rfl)); intro gb571 hg w4 hbox hb; have n0_ := Aside0.mk (Kd.R_below (by (with_reducible repeat (first | apply Kd.R_alloc | apply Kd.R_drewN | apply Kd.R_drew)); exact HO0_1.out) hb); have n1_ := Aside0.mk (Kept.below (S := (fun k_ => P0_1_ k_)) (by repeat (first | (with_reducible first | exact HK.out | apply Kept.alloc | apply Kept.drewN | apply Kept.drew) | exact HK.out)) hb); have n2_ := Aside0.mk (kM (by repeat (first | (with_reducible first | exact HB.out | apply kG | apply kD | apply kF) | exact HB.out)) hb); have n3_ := Aside0.mk (hbox); have n4_ := Aside0.mk ((by rw [hg]; exact (by first | exact HK.out.1 | exact (show Kept w _ (fun k_ => P0_1_ k_) from by repeat (first | (with_reducible first | exact HK.out | apply Kept.alloc | apply Kept.drewN | apply Kept.drew) | exact HK.out)).1) : w.heap.size ≤ gb571)); have n5_ := Aside0.mk ((by rw [hg]; exact (kK (by repeat (first | (with_reducible first | exact HB.out | apply kG | apply kD | apply kF) | exact HB.out))) : w0.heap.size ≤ gb571)); clear HO0_1; clear HK; clear HB; have HO0_1 := n0_; have HK := n1_; have HB := n2_; have BK571 := n3_; have GW571 := n4_; have GE571 := n5_; clear n0_ n1_ n2_ n3_ n4_ n5_; clear hb hbox hg) | ((with_reducible refine gate_dst (N := 2) rfl ?_); refine box_event ?hg (N := 2) ?hd (cs := #[.bool false, .slice none 0 0]) (t := 70) ?hr ?_; (case hd => rfl); (case hg => rfl); (case hr => first | (go_simp; done) | (go_simp; rfl)); intro gb572 hg w5 hbox hb; have n0_ := Aside0.mk (Kd.R_below (by (with_reducible repeat (first | apply Kd.R_alloc | apply Kd.R_drewN | apply Kd.R_drew)); exact HO0_1.out) hb); have n1_ := Aside0.mk (kI (g := gb571) (o := .cells #[.bool true, .slice Ao3 l0_1.length co3] 70 (0, 0)) (by (with_reducible repeat (first | refine kB ?_ _ | refine kE ?_ | refine kC ?_ _)); exact BK571.out) hb); have n2_ := Aside0.mk (Kept.below (S := (fun k_ => P0_1_ k_)) (by repeat (first | (with_reducible first | exact HK.out | apply Kept.alloc | apply Kept.drewN | apply Kept.drew | refine Kept.setCell ?_ (.inr GW571.out) _) | exact HK.out)) hb); have n3_ := Aside0.mk (kM (by repeat (first | (with_reducible first | exact HB.out | apply kG | apply kD | apply kF | refine kA ?_ GE571.out) | exact HB.out)) hb); have n4_ := Aside0.mk (hbox); have n5_ := Aside0.mk ((by rw [hg]; exact (by first | exact HK.out.1 | exact (show Kept w _ (fun k_ => P0_1_ k_) from by repeat (first | (with_reducible first | exact HK.out | apply Kept.alloc | apply Kept.drewN | apply Kept.drew | refine Kept.setCell ?_ (.inr GW571.out) _) | exact HK.out)).1) : w.heap.size ≤ gb572)); have n6_ := Aside0.mk ((by rw [hg]; exact (kK (by repeat (first | (with_reducible first | exact HB.out | apply kG | apply kD | apply kF | refine kA ?_ GE571.out) | exact HB.out))) : w0.heap.size ≤ gb572)); have n7_ := Aside0.mk ((by rw [hg]; exact Nat.ne_of_lt (kP (g := gb571) (o := .cells #[.bool true, .slice Ao3 l0_1.length co3] 70 (0, 0)) (by (with_reducible repeat (first | refine kB ?_ _ | refine kE ?_ | refine kC ?_ _)); exact BK571.out)) : gb571 ≠ gb572)); have n8_ := Aside0.mk ((by rw [hg]; exact Nat.ne_of_gt (kP (g := gb571) (o := .cells #[.bool true, .slice Ao3 l0_1.length co3] 70 (0, 0)) (by (with_reducible repeat (first | refine kB ?_ _ | refine kE ?_ | refine kC ?_ _)); exact BK571.out)) : gb572 ≠ gb571)); clear HO0_1; clear BK571; clear HK; clear HB; have HO0_1 := n0_; have BK571 := n1_; have HK := n2_; have HB := n3_; have BK572 := n4_; have GW572 := n5_; have GE572 := n6_; have NB571_572 := n7_; have NB572_571 := n8_; clear n0_ n1_ n2_ n3_ n4_ n5_ n6_ n7_ n8_; clear hb hbox hg))
    have n0_ := Aside0.mk (Kd.R_drew HO0_1.out)
    have n1_ := Aside0.mk (kE BK571.out)
    have n2_ := Aside0.mk (kE BK572.out)
    have n3_ := Aside0.mk (Kept.drew HK.out)
    have n4_ := Aside0.mk (kF HB.out)
    clear HO0_1
    clear BK571
    clear BK572
    clear HK
    clear HB
    have HO0_1 := n0_
    have BK571 := n1_
    have BK572 := n2_
    have HK := n3_
    have HB := n4_
    clear n0_ n1_ n2_ n3_ n4_
    refine start_ (n := 13) (S := fun w' => w'.cell? ⟨gb571, 0, none⟩ = some (.bool true) ∧ w'.cell? ⟨gb571, 1, none⟩ = some (.slice Ao3 l0_1.length co3)) (ds := []) #[false, false, false, false, false, false, false, false, false, false, false, false, false] (by kernel_rfl) rfl rfl ⟨(kH BK571.out 0).trans rfl, (kH BK571.out 1).trans rfl⟩ (fun hHeld => ?_); refine with_tabW computusref01_Minus.tab1 computusref01_Minus.bits1 (fun HT_ HW_ => ?_)
    generalize w5.drew = w6 at HO0_1 BK571 BK572 HK HB hHeld ⊢
    refine pure_ (i := 0) (N := some 3) (v := ?_) (a' := ?_) #[true, false, false, false, false, false, false, false, false, false, false, false, false] rfl rfl (kQ HT_.out (by kernel_rfl)) (fun _ _ _ h => h) (Or.inl ⟨by rfl, ?_⟩) ?_ ?_
    rotate_left
    · intro w'
      go_simp
      with_reducible rfl
    rotate_left
    · simp only [Act.put, List.setIfInBounds_toArray, List.set_cons_zero, List.set_cons_succ, kN, kO]
      rfl
    refine pure_ (i := 9) (N := some 12) (v := ?_) (a' := ?_) #[true, false, false, false, false, false, false, false, false, true, false, false, false] rfl rfl (kQ HT_.out (by kernel_rfl)) (fun _ _ _ h => h) (Or.inl ⟨by rfl, ?_⟩) ?_ ?_
    rotate_left
    · intro w'
      go_simp
      with_reducible rfl
    rotate_left
    · simp only [Act.put, List.setIfInBounds_toArray, List.set_cons_zero, List.set_cons_succ, kN, kO]
      rfl
    refine take_ (i := 1) (N := some 4) (v := ?_) (a' := ?_) #[true, true, false, false, false, false, false, false, false, true, false, false, false] rfl rfl (take_ofW HT_.out HW_.out (by kernel_rfl)) (fun _ _ _ h => h) (Or.inl ⟨by rfl, ?_⟩) hHeld ?_ ?_
    rotate_left
    · rintro w' ⟨s0, s1⟩
      go_simp
      with_reducible rfl
    rotate_left
    · simp only [Act.put, List.setIfInBounds_toArray, List.set_cons_zero, List.set_cons_succ, kN, kO]
      rfl
    refine pure_ (i := 2) (N := some 5) (v := ?_) (a' := ?_) #[true, true, true, false, false, false, false, false, false, true, false, false, false] rfl rfl (kQ HT_.out (by kernel_rfl)) (fun _ _ _ h => h) (Or.inl ⟨by rfl, ?_⟩) ?_ ?_
    rotate_left
    · intro w'
      go_simp
      with_reducible rfl
    rotate_left
    · simp only [Act.put, List.setIfInBounds_toArray, List.set_cons_zero, List.set_cons_succ, kN, kO]
      rfl
    refine pure_ (i := 3) (N := some 6) (v := ?_) (a' := ?_) #[true, true, true, true, false, false, false, false, false, true, false, false, false] rfl rfl (kQ HT_.out (by kernel_rfl)) (fun _ _ _ h => h) (Or.inl ⟨by rfl, ?_⟩) ?_ ?_
    rotate_left
    · intro w'
      go_simp
      with_reducible rfl
    rotate_left
    · simp only [Act.put, List.setIfInBounds_toArray, List.set_cons_zero, List.set_cons_succ, kN, kO]
      rfl
    refine pure_ (i := 4) (N := some 7) (v := undef) (a' := ?_) #[true, true, true, true, true, false, false, false, false, true, false, false, false] rfl rfl (kQ HT_.out (by kernel_rfl)) (fun _ _ _ h => h) (Or.inr ⟨by rfl, rfl⟩) ?_ ?_
    rotate_left
    · simp only [Act.put, List.setIfInBounds_toArray, List.set_cons_zero, List.set_cons_succ, kN, kO]
      rfl
    refine pure_ (i := 5) (N := some 8) (v := undef) (a' := ?_) #[true, true, true, true, true, true, false, false, false, true, false, false, false] rfl rfl (kQ HT_.out (by kernel_rfl)) (fun _ _ _ h => h) (Or.inr ⟨by rfl, rfl⟩) ?_ ?_
    rotate_left
    · simp only [Act.put, List.setIfInBounds_toArray, List.set_cons_zero, List.set_cons_succ, kN, kO]
      rfl
    refine pure_ (i := 6) (N := some 9) (v := undef) (a' := ?_) #[true, true, true, true, true, true, true, false, false, true, false, false, false] rfl rfl (kQ HT_.out (by kernel_rfl)) (fun _ _ _ h => h) (Or.inr ⟨by rfl, rfl⟩) ?_ ?_
    rotate_left
    · simp only [Act.put, List.setIfInBounds_toArray, List.set_cons_zero, List.set_cons_succ, kN, kO]
      rfl
    refine pure_ (i := 7) (N := some 10) (v := undef) (a' := ?_) #[true, true, true, true, true, true, true, true, false, true, false, false, false] rfl rfl (kQ HT_.out (by kernel_rfl)) (fun _ _ _ h => h) (Or.inr ⟨by rfl, rfl⟩) ?_ ?_
    rotate_left
    · simp only [Act.put, List.setIfInBounds_toArray, List.set_cons_zero, List.set_cons_succ, kN, kO]
      rfl
    refine pure_ (i := 8) (N := some 11) (v := ?_) (a' := ?_) #[true, true, true, true, true, true, true, true, true, true, false, false, false] rfl rfl (kQ HT_.out (by kernel_rfl)) (fun _ _ _ h => h) (Or.inl ⟨by rfl, ?_⟩) ?_ ?_
    rotate_left
    · intro w'
      go_simp
      with_reducible rfl
    rotate_left
    · simp only [Act.put, List.setIfInBounds_toArray, List.set_cons_zero, List.set_cons_succ, kN, kO]
      rfl
    refine take_ (i := 10) (N := some 13) (v := ?_) (a' := ?_) #[true, true, true, true, true, true, true, true, true, true, true, false, false] rfl rfl (take_ofW HT_.out HW_.out (by kernel_rfl)) (fun _ _ _ h => h) (Or.inl ⟨by rfl, ?_⟩) hHeld ?_ ?_
    rotate_left
    · rintro w' ⟨s0, s1⟩
      go_simp
      with_reducible rfl
    rotate_left
    · simp only [Act.put, List.setIfInBounds_toArray, List.set_cons_zero, List.set_cons_succ, kN, kO]
      rfl
    refine pure_ (i := 11) (N := some 14) (v := ?_) (a' := ?_) #[true, true, true, true, true, true, true, true, true, true, true, true, false] rfl rfl (kQ HT_.out (by kernel_rfl)) (fun _ _ _ h => h) (Or.inl ⟨by rfl, ?_⟩) ?_ ?_
    rotate_left
    · intro w'
      go_simp
      with_reducible rfl
    rotate_left
    · simp only [Act.put, List.setIfInBounds_toArray, List.set_cons_zero, List.set_cons_succ, kN, kO]
      rfl
    refine one_ (i := 12) (N := none) #[true, true, true, true, true, true, true, true, true, true, true, true, true] rfl rfl (one_of HT_.out (by kernel_rfl)) (by decide) (fun K hK => ?_)
    have hs7 : w6.cell? ⟨gb572, 0, none⟩ = some (.bool false) := (kH BK572.out 0).trans rfl
    have hfs7 := kJ BK572.out 0
    have hns7_0 := NB571_572.out
    have hms7_0 := NB572_571.out
    have hs8 : w6.cell? ⟨gb572, 1, none⟩ = some (.slice none 0 0) := (kH BK572.out 1).trans rfl
    have hfs8 := kJ BK572.out 1
    have hns8_0 := NB571_572.out
    have hms8_0 := NB572_571.out
    refine skip_ (w1 := ?_) (by rfl) rfl ?_ ?_
    rotate_left
    · go_simp
      rfl
    refine hK.out _ _ ⟨((cell_far (p := ⟨gb572, _, none⟩) NB571_572.out _).trans (((cell_far (p := ⟨gb572, _, none⟩) NB571_572.out _).trans (hHeld.1)))), ((cell_far (p := ⟨gb572, _, none⟩) NB571_572.out _).trans (((cell_far (p := ⟨gb572, _, none⟩) NB571_572.out _).trans (hHeld.2))))⟩ (fun hHeld => ?_)
    clear hK K
    refine done_ (done_of HT_.out (by kernel_rfl)) ?_
    try go_wp2
    refine bodyPost_ret (results_cell_row rfl _ _ gb572 70 #[.bool false, .slice Ao3 l0_1.length co3] (0, 0) _ rfl (by (with_reducible repeat (first | refine kB ?_ _ | refine kE ?_ | refine kC ?_ _)); refine blk_put (cs := #[.bool false, .slice none 0 0]) ?_ 1 _ rfl; (with_reducible repeat (first | refine kB ?_ _ | refine kE ?_ | refine kC ?_ _)); refine blk_put (cs := #[.bool false, .slice none 0 0]) ?_ 0 _ rfl; (with_reducible repeat (first | refine kB ?_ _ | refine kE ?_ | refine kC ?_ _)); exact BK572.out) Try.underlying70 rfl (by kernel_rfl)) rfl ?_
    exact ⟨_, by first | rfl | (simp [errW_none, errW_some] <;> rfl) | (simp [*, errW_none, errW_some] <;> rfl), by (with_reducible repeat (first | apply Kd.R_alloc | apply Kd.R_drewN | apply Kd.R_drew)); exact Kd.R_mono (Kd.R_far (p := ⟨gb572, 1, none⟩) (Kd.R_far (p := ⟨gb572, 0, none⟩) (Kd.R_types HO0_1.out BK572.out (by decide)) (fun _ hk => hk.2) (.bool false)) (fun _ hk => hk.2) (.slice Ao3 l0_1.length co3)) (fun _ hk => hk.1), by repeat (first | (with_reducible first | exact HB.out | apply kG | apply kD | apply kF | refine kA ?_ GE571.out | refine kA ?_ GE572.out) | exact HB.out), by repeat (first | (with_reducible first | exact HK.out | apply Kept.alloc | apply Kept.drewN | apply Kept.drew | refine Kept.setCell ?_ (.inr GW571.out) _ | refine Kept.setCell ?_ (.inr GW572.out) _) | exact HK.out)⟩
  · replace c2 := Bool.eq_false_iff.mpr c2
    subst c2
    have H1 : ((computusref01_zero.f k l0_1).bind fun t573 => (some (!t573, l0_1))) = some (r1, r2) := by rw [if_neg (show ¬ (false = true) by decide)] at H; exact H
    clear H
    have H := H1
    clear H1
    replace H := Option.bind_eq_some_iff.mp H
    obtain ⟨t573, A90, H⟩ := H
    replace H : (some (!t573, l0_1)) = some (r1, r2) := H
    have A9 := Aside0.mk A90
    clear A90
    simp only [Option.some.injEq, Prod.mk.injEq] at H
    obtain ⟨rfl, rfl⟩ := H
    obtain ⟨Ao10, co10, eo10⟩ := Kd.R_slice HO0_1.out
    subst eo10
    go_enter Try.func91, Try.ntmps91
    try go_wp2_with (first | ((with_reducible refine gate_dst (N := 1) rfl ?_); refine box_event ?hg (N := 1) ?hd (cs := #[.bool false, .slice Ao10 l0_1.length co10]) (t := 70) ?hr ?_; (case hd => rfl); (case hg => rfl); (case hr => first | (go_simp; done) | (go_simp; rfl)); intro gb571 hg w11 hbox hb; have n0_ := Aside0.mk (Kd.R_below (by (with_reducible repeat (first | apply Kd.R_alloc | apply Kd.R_drewN | apply Kd.R_drew)); exact HO0_1.out) hb); have n1_ := Aside0.mk (Kept.below (S := (fun k_ => P0_1_ k_)) (by repeat (first | (with_reducible first | exact HK.out | apply Kept.alloc | apply Kept.drewN | apply Kept.drew) | exact HK.out)) hb); have n2_ := Aside0.mk (kM (by repeat (first | (with_reducible first | exact HB.out | apply kG | apply kD | apply kF) | exact HB.out)) hb); have n3_ := Aside0.mk (hbox); have n4_ := Aside0.mk ((by rw [hg]; exact (by first | exact HK.out.1 | exact (show Kept w _ (fun k_ => P0_1_ k_) from by repeat (first | (with_reducible first | exact HK.out | apply Kept.alloc | apply Kept.drewN | apply Kept.drew) | exact HK.out)).1) : w.heap.size ≤ gb571)); have n5_ := Aside0.mk ((by rw [hg]; exact (kK (by repeat (first | (with_reducible first | exact HB.out | apply kG | apply kD | apply kF) | exact HB.out))) : w0.heap.size ≤ gb571)); clear HO0_1; clear HK; clear HB; have HO0_1 := n0_; have HK := n1_; have HB := n2_; have BK571 := n3_; have GW571 := n4_; have GE571 := n5_; clear n0_ n1_ n2_ n3_ n4_ n5_; clear hb hbox hg) | ((with_reducible refine gate_dst (N := 2) rfl ?_); refine box_event ?hg (N := 2) ?hd (cs := #[.bool false, .slice none 0 0]) (t := 70) ?hr ?_; (case hd => rfl); (case hg => rfl); (case hr => first | (go_simp; done) | (go_simp; rfl)); intro gb572 hg w12 hbox hb; have n0_ := Aside0.mk (Kd.R_below (by (with_reducible repeat (first | apply Kd.R_alloc | apply Kd.R_drewN | apply Kd.R_drew)); exact HO0_1.out) hb); have n1_ := Aside0.mk (kI (g := gb571) (o := .cells #[.bool false, .slice Ao10 l0_1.length co10] 70 (0, 0)) (by (with_reducible repeat (first | refine kB ?_ _ | refine kE ?_ | refine kC ?_ _)); exact BK571.out) hb); have n2_ := Aside0.mk (Kept.below (S := (fun k_ => P0_1_ k_)) (by repeat (first | (with_reducible first | exact HK.out | apply Kept.alloc | apply Kept.drewN | apply Kept.drew | refine Kept.setCell ?_ (.inr GW571.out) _) | exact HK.out)) hb); have n3_ := Aside0.mk (kM (by repeat (first | (with_reducible first | exact HB.out | apply kG | apply kD | apply kF | refine kA ?_ GE571.out) | exact HB.out)) hb); have n4_ := Aside0.mk (hbox); have n5_ := Aside0.mk ((by rw [hg]; exact (by first | exact HK.out.1 | exact (show Kept w _ (fun k_ => P0_1_ k_) from by repeat (first | (with_reducible first | exact HK.out | apply Kept.alloc | apply Kept.drewN | apply Kept.drew | refine Kept.setCell ?_ (.inr GW571.out) _) | exact HK.out)).1) : w.heap.size ≤ gb572)); have n6_ := Aside0.mk ((by rw [hg]; exact (kK (by repeat (first | (with_reducible first | exact HB.out | apply kG | apply kD | apply kF | refine kA ?_ GE571.out) | exact HB.out))) : w0.heap.size ≤ gb572)); have n7_ := Aside0.mk ((by rw [hg]; exact Nat.ne_of_lt (kP (g := gb571) (o := .cells #[.bool false, .slice Ao10 l0_1.length co10] 70 (0, 0)) (by (with_reducible repeat (first | refine kB ?_ _ | refine kE ?_ | refine kC ?_ _)); exact BK571.out)) : gb571 ≠ gb572)); have n8_ := Aside0.mk ((by rw [hg]; exact Nat.ne_of_gt (kP (g := gb571) (o := .cells #[.bool false, .slice Ao10 l0_1.length co10] 70 (0, 0)) (by (with_reducible repeat (first | refine kB ?_ _ | refine kE ?_ | refine kC ?_ _)); exact BK571.out)) : gb572 ≠ gb571)); clear HO0_1; clear BK571; clear HK; clear HB; have HO0_1 := n0_; have BK571 := n1_; have HK := n2_; have HB := n3_; have BK572 := n4_; have GW572 := n5_; have GE572 := n6_; have NB571_572 := n7_; have NB572_571 := n8_; clear n0_ n1_ n2_ n3_ n4_ n5_ n6_ n7_ n8_; clear hb hbox hg))
    have n0_ := Aside0.mk (Kd.R_drew HO0_1.out)
    have n1_ := Aside0.mk (kE BK571.out)
    have n2_ := Aside0.mk (kE BK572.out)
    have n3_ := Aside0.mk (Kept.drew HK.out)
    have n4_ := Aside0.mk (kF HB.out)
    clear HO0_1
    clear BK571
    clear BK572
    clear HK
    clear HB
    have HO0_1 := n0_
    have BK571 := n1_
    have BK572 := n2_
    have HK := n3_
    have HB := n4_
    clear n0_ n1_ n2_ n3_ n4_
    refine start_ (n := 13) (S := fun w' => w'.cell? ⟨gb571, 0, none⟩ = some (.bool false) ∧ w'.cell? ⟨gb571, 1, none⟩ = some (.slice Ao10 l0_1.length co10)) (ds := []) #[false, false, false, false, false, false, false, false, false, false, false, false, false] (by kernel_rfl) rfl rfl ⟨(kH BK571.out 0).trans rfl, (kH BK571.out 1).trans rfl⟩ (fun hHeld => ?_); refine with_tabW computusref01_Minus.tab1 computusref01_Minus.bits1 (fun HT_ HW_ => ?_)
    generalize w12.drew = w13 at HO0_1 BK571 BK572 HK HB hHeld ⊢
    refine pure_ (i := 0) (N := some 3) (v := ?_) (a' := ?_) #[true, false, false, false, false, false, false, false, false, false, false, false, false] rfl rfl (kQ HT_.out (by kernel_rfl)) (fun _ _ _ h => h) (Or.inl ⟨by rfl, ?_⟩) ?_ ?_
    rotate_left
    · intro w'
      go_simp
      with_reducible rfl
    rotate_left
    · simp only [Act.put, List.setIfInBounds_toArray, List.set_cons_zero, List.set_cons_succ, kN, kO]
      rfl
    refine pure_ (i := 9) (N := some 12) (v := ?_) (a' := ?_) #[true, false, false, false, false, false, false, false, false, true, false, false, false] rfl rfl (kQ HT_.out (by kernel_rfl)) (fun _ _ _ h => h) (Or.inl ⟨by rfl, ?_⟩) ?_ ?_
    rotate_left
    · intro w'
      go_simp
      with_reducible rfl
    rotate_left
    · simp only [Act.put, List.setIfInBounds_toArray, List.set_cons_zero, List.set_cons_succ, kN, kO]
      rfl
    refine take_ (i := 1) (N := some 4) (v := ?_) (a' := ?_) #[true, true, false, false, false, false, false, false, false, true, false, false, false] rfl rfl (take_ofW HT_.out HW_.out (by kernel_rfl)) (fun _ _ _ h => h) (Or.inl ⟨by rfl, ?_⟩) hHeld ?_ ?_
    rotate_left
    · rintro w' ⟨s0, s1⟩
      go_simp
      with_reducible rfl
    rotate_left
    · simp only [Act.put, List.setIfInBounds_toArray, List.set_cons_zero, List.set_cons_succ, kN, kO]
      rfl
    refine pure_ (i := 2) (N := some 5) (v := ?_) (a' := ?_) #[true, true, true, false, false, false, false, false, false, true, false, false, false] rfl rfl (kQ HT_.out (by kernel_rfl)) (fun _ _ _ h => h) (Or.inl ⟨by rfl, ?_⟩) ?_ ?_
    rotate_left
    · intro w'
      go_simp
      with_reducible rfl
    rotate_left
    · simp only [Act.put, List.setIfInBounds_toArray, List.set_cons_zero, List.set_cons_succ, kN, kO]
      rfl
    refine pure_ (i := 3) (N := some 6) (v := ?_) (a' := ?_) #[true, true, true, true, false, false, false, false, false, true, false, false, false] rfl rfl (kQ HT_.out (by kernel_rfl)) (fun _ _ _ h => h) (Or.inl ⟨by rfl, ?_⟩) ?_ ?_
    rotate_left
    · intro w'
      go_simp
      with_reducible rfl
    rotate_left
    · simp only [Act.put, List.setIfInBounds_toArray, List.set_cons_zero, List.set_cons_succ, kN, kO]
      rfl
    refine pure_ (i := 4) (N := some 7) (v := ?_) (a' := ?_) #[true, true, true, true, true, false, false, false, false, true, false, false, false] rfl rfl (kQ HT_.out (by kernel_rfl)) (fun _ _ _ h => h) (Or.inl ⟨by rfl, ?_⟩) ?_ ?_
    rotate_left
    · intro w'
      go_simp
      with_reducible rfl
    rotate_left
    · simp only [Act.put, List.setIfInBounds_toArray, List.set_cons_zero, List.set_cons_succ, kN, kO]
      rfl
    refine take_ (i := 5) (N := some 8) (v := ?_) (a' := ?_) #[true, true, true, true, true, true, false, false, false, true, false, false, false] rfl rfl (take_ofW HT_.out HW_.out (by kernel_rfl)) (fun _ _ _ h => h) (Or.inl ⟨by rfl, ?_⟩) hHeld ?_ ?_
    rotate_left
    · rintro w' ⟨s0, s1⟩
      go_simp
      with_reducible rfl
    rotate_left
    · simp only [Act.put, List.setIfInBounds_toArray, List.set_cons_zero, List.set_cons_succ, kN, kO]
      rfl
    refine take_ (i := 10) (N := some 13) (v := ?_) (a' := ?_) #[true, true, true, true, true, true, false, false, false, true, true, false, false] rfl rfl (take_ofW HT_.out HW_.out (by kernel_rfl)) (fun _ _ _ h => h) (Or.inl ⟨by rfl, ?_⟩) hHeld ?_ ?_
    rotate_left
    · rintro w' ⟨s0, s1⟩
      go_simp
      with_reducible rfl
    rotate_left
    · simp only [Act.put, List.setIfInBounds_toArray, List.set_cons_zero, List.set_cons_succ, kN, kO]
      rfl
    refine one_ (i := 6) (N := some 9) #[true, true, true, true, true, true, true, false, false, true, true, false, false] rfl rfl (one_of HT_.out (by kernel_rfl)) (by decide) (fun K hK => ?_)
    refine goes_ Try.func96 (by kernel_rfl) rfl #[.slice Ao10 l0_1.length co10] (by rfl) rfl rfl (by (try simp only [List.map_toArray, List.map_cons, List.map_nil]); first | done | rfl | (simp only [List.length_drop, List.length_take]; rfl)) ?_
    with_reducible refine (computusref01_zero.calls k _ _ l0_1 t573 _ ?side1 ?side2 A9.out).mono ?_
    (case side1 => repeat (first | exact (Kd.R_reads' HO0_1.out).2.2 | (with_reducible refine Kd.C_alloc ?_ _) | (with_reducible refine Kd.C_drewN ?_ _) | (with_reducible refine Kd.C_drew ?_)))
    (case side2 => exact (Kd.R_reads' HO0_1.out).2.1)
    rintro e w14 ⟨rfl, hb⟩
    refine ⟨_, rfl, ?_⟩
    have n0_ := Aside0.mk (Kd.R_below (by (with_reducible repeat (first | apply Kd.R_alloc | apply Kd.R_drewN | apply Kd.R_drew)); exact HO0_1.out) hb)
    have n1_ := Aside0.mk (kI (g := gb571) (o := .cells #[.bool false, .slice Ao10 l0_1.length co10] 70 (0, 0)) (by (with_reducible repeat (first | refine kB ?_ _ | refine kE ?_ | refine kC ?_ _)); exact BK571.out) hb)
    have n2_ := Aside0.mk (kI (g := gb572) (o := .cells #[.bool false, .slice none 0 0] 70 (0, 0)) (by (with_reducible repeat (first | refine kB ?_ _ | refine kE ?_ | refine kC ?_ _)); exact BK572.out) hb)
    have n3_ := Aside0.mk (Kept.below (S := (fun k_ => P0_1_ k_)) (by repeat (first | (with_reducible first | exact HK.out | apply Kept.alloc | apply Kept.drewN | apply Kept.drew | refine Kept.setCell ?_ (.inr GW571.out) _ | refine Kept.setCell ?_ (.inr GW572.out) _) | exact HK.out)) hb)
    have n4_ := Aside0.mk (kM (by repeat (first | (with_reducible first | exact HB.out | apply kG | apply kD | apply kF | refine kA ?_ GE571.out | refine kA ?_ GE572.out) | exact HB.out)) hb)
    clear HO0_1
    clear BK571
    clear BK572
    clear HK
    clear HB
    have HO0_1 := n0_
    have BK571 := n1_
    have BK572 := n2_
    have HK := n3_
    have HB := n4_
    clear n0_ n1_ n2_ n3_ n4_
    (try clear hb)
    (try clear hb2)
    (try clear hk)
    (try clear hi)
    refine hK.out _ _ ⟨(kH BK571.out 0).trans rfl, (kH BK571.out 1).trans rfl⟩ (fun hHeld => ?_)
    clear hK K
    refine norm_ (a' := ?_) ?_ ?_
    rotate_left
    · show Act.put _ (some 9) _ = _
      simp only [Act.put, List.setIfInBounds_toArray, List.set_cons_zero, List.set_cons_succ, kN, kO]
      rfl
    refine pure_ (i := 7) (N := some 10) (v := ?_) (a' := ?_) #[true, true, true, true, true, true, true, true, false, true, true, false, false] rfl rfl (kQ HT_.out (by kernel_rfl)) (fun _ _ _ h => h) (Or.inl ⟨by rfl, ?_⟩) ?_ ?_
    rotate_left
    · intro w'
      go_simp
      with_reducible rfl
    rotate_left
    · simp only [Act.put, List.setIfInBounds_toArray, List.set_cons_zero, List.set_cons_succ, kN, kO]
      rfl
    refine pure_ (i := 8) (N := some 11) (v := ?_) (a' := ?_) #[true, true, true, true, true, true, true, true, true, true, true, false, false] rfl rfl (kQ HT_.out (by kernel_rfl)) (fun _ _ _ h => h) (Or.inl ⟨by rfl, ?_⟩) ?_ ?_
    rotate_left
    · intro w'
      go_simp
      with_reducible rfl
    rotate_left
    · simp only [Act.put, List.setIfInBounds_toArray, List.set_cons_zero, List.set_cons_succ, kN, kO]
      rfl
    refine pure_ (i := 11) (N := some 14) (v := ?_) (a' := ?_) #[true, true, true, true, true, true, true, true, true, true, true, true, false] rfl rfl (kQ HT_.out (by kernel_rfl)) (fun _ _ _ h => h) (Or.inl ⟨by rfl, ?_⟩) ?_ ?_
    rotate_left
    · intro w'
      go_simp
      with_reducible rfl
    rotate_left
    · simp only [Act.put, List.setIfInBounds_toArray, List.set_cons_zero, List.set_cons_succ, kN, kO]
      rfl
    refine one_ (i := 12) (N := none) #[true, true, true, true, true, true, true, true, true, true, true, true, true] rfl rfl (one_of HT_.out (by kernel_rfl)) (by decide) (fun K hK => ?_)
    have hs15 : w14.cell? ⟨gb572, 0, none⟩ = some (.bool false) := (kH BK572.out 0).trans rfl
    have hfs15 := kJ BK572.out 0
    have hns15_0 := NB571_572.out
    have hms15_0 := NB572_571.out
    have hs16 : w14.cell? ⟨gb572, 1, none⟩ = some (.slice none 0 0) := (kH BK572.out 1).trans rfl
    have hfs16 := kJ BK572.out 1
    have hns16_0 := NB571_572.out
    have hms16_0 := NB572_571.out
    refine skip_ (w1 := ?_) (by rfl) rfl ?_ ?_
    rotate_left
    · go_simp
      rfl
    refine hK.out _ _ ⟨((cell_far (p := ⟨gb572, _, none⟩) NB571_572.out _).trans (((cell_far (p := ⟨gb572, _, none⟩) NB571_572.out _).trans (hHeld.1)))), ((cell_far (p := ⟨gb572, _, none⟩) NB571_572.out _).trans (((cell_far (p := ⟨gb572, _, none⟩) NB571_572.out _).trans (hHeld.2))))⟩ (fun hHeld => ?_)
    clear hK K
    refine done_ (done_of HT_.out (by kernel_rfl)) ?_
    try go_wp2
    refine bodyPost_ret (results_cell_row rfl _ _ gb572 70 #[.bool (!t573), .slice Ao10 l0_1.length co10] (0, 0) _ rfl (by (with_reducible repeat (first | refine kB ?_ _ | refine kE ?_ | refine kC ?_ _)); refine blk_put (cs := #[.bool (!t573), .slice none 0 0]) ?_ 1 _ rfl; (with_reducible repeat (first | refine kB ?_ _ | refine kE ?_ | refine kC ?_ _)); refine blk_put (cs := #[.bool false, .slice none 0 0]) ?_ 0 _ rfl; (with_reducible repeat (first | refine kB ?_ _ | refine kE ?_ | refine kC ?_ _)); exact BK572.out) Try.underlying70 rfl (by kernel_rfl)) rfl ?_
    exact ⟨_, by first | rfl | (simp [errW_none, errW_some] <;> rfl) | (simp [*, errW_none, errW_some] <;> rfl), by (with_reducible repeat (first | apply Kd.R_alloc | apply Kd.R_drewN | apply Kd.R_drew)); exact Kd.R_mono (Kd.R_far (p := ⟨gb572, 1, none⟩) (Kd.R_far (p := ⟨gb572, 0, none⟩) (Kd.R_types HO0_1.out BK572.out (by decide)) (fun _ hk => hk.2) (.bool (!t573))) (fun _ hk => hk.2) (.slice Ao10 l0_1.length co10)) (fun _ hk => hk.1), by repeat (first | (with_reducible first | exact HB.out | apply kG | apply kD | apply kF | refine kA ?_ GE571.out | refine kA ?_ GE572.out) | exact HB.out), by repeat (first | (with_reducible first | exact HK.out | apply Kept.alloc | apply Kept.drewN | apply Kept.drew | refine Kept.setCell ?_ (.inr GW571.out) _ | refine Kept.setCell ?_ (.inr GW572.out) _) | exact HK.out)⟩
end Go.Proofs.Ytgjbdojpncmmlaa.P
