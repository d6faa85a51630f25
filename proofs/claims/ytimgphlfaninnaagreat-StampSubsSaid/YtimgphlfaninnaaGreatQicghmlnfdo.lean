import Derived.Test.YtimgphlfaninnaaGreatQoobaoafdnj
import Derived.Test.YtimgphlfaninnaaGreatQghjfngbobd
import Derived.Test.YtimgphlfaninnaaGreatQjbegmocjfm
import Derived.Test.YtimgphlfaninnaaGreatQjjckkmidhd
import Derived.Test.YtimgphlfaninnaaGreatQpcfflmhgam
import Derived.Test.YtimgphlfaninnaaGreatQhninfjcbop
namespace Go.Proofs.YtimgphlfaninnaaGreat.P
open Go.RowKit Go.Proofs.YtimgphlfaninnaaGreatW.PrintWords Go.Proofs.YtimgphlfaninnaaGreatW.PrintLast Go.Proofs.YtimgphlfaninnaaGreatW.PrintMore
 attribute [local go_sem] jQ jP zB zC jE jD jO jN
set_option linter.unusedVariables false
set_option linter.unusedSimpArgs false
def jU.j0 : Nat → List Int → Bool → Bool → List Int → Bool → List Int → Option (Bool × List Int)
 | 0, _, _, _, _, _, _ => none
 | k + 1, x5, x24, x470000, x470001, x471000, x471001 => if x24 = true then ((vF.f 1).bind fun bt479 => ((bI.f k x5 bt479.2).bind fun t483 => (if (x470000 != x471000) = true then ((zJ.f k t483).bind fun t486 => (some (!t486, t483))) else (some (false, t483))))) else (if (x470000 != x471000) = true then ((zJ.f k x5).bind fun t487 => (some (!t487, x5))) else (some (false, x5)))
def jU.f (k : Nat) (a0_0 : Bool) (l0_1 : List Int) (a1_0 : Bool) (l1_1 : List Int) : Option (Bool × List Int) := (kY.f k l0_1 l1_1).bind fun bt472 => (if (a0_0 != a1_0) = true then ((zJ.f k bt472.2).bind fun t478 => (jU.j0 k bt472.1 (!t478) a0_0 l0_1 a1_0 l1_1)) else (jU.j0 k bt472.1 false a0_0 l0_1 a1_0 l1_1))
set_option maxHeartbeats 8000000 in
set_option maxRecDepth 100000 in
theorem jU.calls (k : Nat) (a0_0 : Bool) (A0_1 : Option Addr) (c0_1 : Nat) (l0_1 : List Int) (a1_0 : Bool) (A1_1 : Option Addr) (c1_1 : Nat) (l1_1 : List Int) (r1 : Bool) (r2 : List Int) (w : World) (hr0_1 : Kd.C (Kd.int .u64) w A0_1 l0_1.length l0_1) (hc0_1 : l0_1.length ≤ c0_1) (hr1_1 : Kd.C (Kd.int .u64) w A1_1 l1_1.length l1_1) (hc1_1 : l1_1.length ≤ c1_1) (h : jU.f k a0_0 l0_1 a1_0 l1_1 = some (r1, r2)) :
 Calls Tryz.prog 110 #[.agg #[.bool a0_0, .slice A0_1 l0_1.length c0_1], .agg #[.bool a1_0, .slice A1_1 l1_1.length c1_1]] w fun e w' => ∃ v1_ : Value, e = .returned (.agg #[.bool r1, v1_]) ∧ Kd.R (Kd.int .u64) 155 w' w.heap.size (fun _ => True) v1_ r2 ∧ Below w.heap.size w w' := by
 have hu135 := Tryz.underlying135
 have hfd135_1 : ∀ (y0_ y1_ : Value) (W : World), (Instr.field 135 (.agg #[y0_, y1_]) 1).run Tryz.prog W = .ok (y1_) W := fun y0_ y1_ W => by rfl
 have HR0_1 := Aside0.mk hr0_1
 have HC0_1 := Aside0.mk hc0_1
 clear hr0_1 hc0_1
 have HR1_1 := Aside0.mk hr1_1
 have HC1_1 := Aside0.mk hc1_1
 clear hr1_1 hc1_1
 have HB := Aside0.mk (Below.refl w.heap.size w)
 have H : ((kY.f k l0_1 l1_1).bind fun bt472 => (if (a0_0 != a1_0) = true then ((zJ.f k bt472.2).bind fun t478 => (jU.j0 k bt472.1 (!t478) a0_0 l0_1 a1_0 l1_1)) else (jU.j0 k bt472.1 false a0_0 l0_1 a1_0 l1_1))) = some (r1, r2) := h
 clear h
 replace H := Option.bind_eq_some_iff.mp H
 obtain ⟨⟨t472, t473⟩, A30, H⟩ := H
 replace H : (if (a0_0 != a1_0) = true then ((zJ.f k t473).bind fun t478 => (jU.j0 k t472 (!t478) a0_0 l0_1 a1_0 l1_1)) else (jU.j0 k t472 false a0_0 l0_1 a1_0 l1_1)) = some (r1, r2) := H
 have A3 := Aside0.mk A30
 clear A30
 have HC4 := Aside0.mk H
 clear H
 go_enter Tryz.func110, Tryz.ntmps110
 go_upto_region 2 with (first | ((with_reducible refine gate_dst (N := 2) rfl ?_); refine box_event ?hg (N := 2) ?hd (cs := #[.bool a0_0, .slice A0_1 l0_1.length c0_1]) (t := 135) ?hr ?_; (case hd => rfl); (case hg => rfl); (case hr => first | (go_simp; done) | (go_simp; rfl)); intro gb469 hg w5 hbox hb; have n0_ := Aside0.mk (jZ (by repeat (first | (with_reducible first | exact HB.out | apply kO | apply kF | apply kQ) | exact HB.out)) hb); have n1_ := Aside0.mk (hbox); have n2_ := Aside0.mk ((by rw [hg]; exact (zF (by repeat (first | (with_reducible first | exact HB.out | apply kO | apply kF | apply kQ) | exact HB.out))) : w.heap.size ≤ gb469)); have n3_ := Aside0.mk ((by rw [hg]; exact (zF (by repeat (first | (with_reducible first | exact HB.out | apply kO | apply kF | apply kQ) | exact HB.out))) : w.heap.size ≤ gb469)); clear HB; have HB := n0_; have BK469 := n1_; have GW469 := n2_; have GE469 := n3_; clear n0_ n1_ n2_ n3_; clear hb hbox hg) | ((with_reducible refine gate_dst (N := 3) rfl ?_); refine box_event ?hg (N := 3) ?hd (cs := #[.bool a1_0, .slice A1_1 l1_1.length c1_1]) (t := 135) ?hr ?_; (case hd => rfl); (case hg => rfl); (case hr => first | (go_simp; done) | (go_simp; rfl)); intro gb470 hg w6 hbox hb; have n0_ := Aside0.mk (zH (g := gb469) (o := .cells #[.bool a0_0, .slice A0_1 l0_1.length c0_1] 135 (0, 0)) (by (with_reducible repeat (first | refine bQ ?_ _ | refine bW ?_ | refine bP ?_ _)); exact BK469.out) hb); have n1_ := Aside0.mk (jZ (by repeat (first | (with_reducible first | exact HB.out | apply kO | apply kF | apply kQ | refine bA ?_ GE469.out) | exact HB.out)) hb); have n2_ := Aside0.mk (hbox); have n3_ := Aside0.mk ((by rw [hg]; exact (zF (by repeat (first | (with_reducible first | exact HB.out | apply kO | apply kF | apply kQ | refine bA ?_ GE469.out) | exact HB.out))) : w.heap.size ≤ gb470)); have n4_ := Aside0.mk ((by rw [hg]; exact (zF (by repeat (first | (with_reducible first | exact HB.out | apply kO | apply kF | apply kQ | refine bA ?_ GE469.out) | exact HB.out))) : w.heap.size ≤ gb470)); have n5_ := Aside0.mk ((by rw [hg]; exact Nat.ne_of_lt (blk_lt (g := gb469) (o := .cells #[.bool a0_0, .slice A0_1 l0_1.length c0_1] 135 (0, 0)) (by (with_reducible repeat (first | refine bQ ?_ _ | refine bW ?_ | refine bP ?_ _)); exact BK469.out)) : gb469 ≠ gb470)); have n6_ := Aside0.mk ((by rw [hg]; exact Nat.ne_of_gt (blk_lt (g := gb469) (o := .cells #[.bool a0_0, .slice A0_1 l0_1.length c0_1] 135 (0, 0)) (by (with_reducible repeat (first | refine bQ ?_ _ | refine bW ?_ | refine bP ?_ _)); exact BK469.out)) : gb470 ≠ gb469)); clear BK469; clear HB; have BK469 := n0_; have HB := n1_; have BK470 := n2_; have GW470 := n3_; have GE470 := n4_; have NB469_470 := n5_; have NB470_469 := n6_; clear n0_ n1_ n2_ n3_ n4_ n5_ n6_; clear hb hbox hg) | ((with_reducible refine gate_dst (N := 4) rfl ?_); refine box_event ?hg (N := 4) ?hd (cs := #[.bool false, .slice none 0 0]) (t := 135) ?hr ?_; (case hd => rfl); (case hg => rfl); (case hr => first | (go_simp; done) | (go_simp; rfl)); intro gb471 hg w7 hbox hb; have n0_ := Aside0.mk (zH (g := gb469) (o := .cells #[.bool a0_0, .slice A0_1 l0_1.length c0_1] 135 (0, 0)) (by (with_reducible repeat (first | refine bQ ?_ _ | refine bW ?_ | refine bP ?_ _)); exact BK469.out) hb); have n1_ := Aside0.mk (zH (g := gb470) (o := .cells #[.bool a1_0, .slice A1_1 l1_1.length c1_1] 135 (0, 0)) (by (with_reducible repeat (first | refine bQ ?_ _ | refine bW ?_ | refine bP ?_ _)); exact BK470.out) hb); have n2_ := Aside0.mk (jZ (by repeat (first | (with_reducible first | exact HB.out | apply kO | apply kF | apply kQ | refine bA ?_ GE469.out | refine bA ?_ GE470.out) | exact HB.out)) hb); have n3_ := Aside0.mk (hbox); have n4_ := Aside0.mk ((by rw [hg]; exact (zF (by repeat (first | (with_reducible first | exact HB.out | apply kO | apply kF | apply kQ | refine bA ?_ GE469.out | refine bA ?_ GE470.out) | exact HB.out))) : w.heap.size ≤ gb471)); have n5_ := Aside0.mk ((by rw [hg]; exact (zF (by repeat (first | (with_reducible first | exact HB.out | apply kO | apply kF | apply kQ | refine bA ?_ GE469.out | refine bA ?_ GE470.out) | exact HB.out))) : w.heap.size ≤ gb471)); have n6_ := Aside0.mk ((by rw [hg]; exact Nat.ne_of_lt (blk_lt (g := gb469) (o := .cells #[.bool a0_0, .slice A0_1 l0_1.length c0_1] 135 (0, 0)) (by (with_reducible repeat (first | refine bQ ?_ _ | refine bW ?_ | refine bP ?_ _)); exact BK469.out)) : gb469 ≠ gb471)); have n7_ := Aside0.mk ((by rw [hg]; exact Nat.ne_of_gt (blk_lt (g := gb469) (o := .cells #[.bool a0_0, .slice A0_1 l0_1.length c0_1] 135 (0, 0)) (by (with_reducible repeat (first | refine bQ ?_ _ | refine bW ?_ | refine bP ?_ _)); exact BK469.out)) : gb471 ≠ gb469)); have n8_ := Aside0.mk ((by rw [hg]; exact Nat.ne_of_lt (blk_lt (g := gb470) (o := .cells #[.bool a1_0, .slice A1_1 l1_1.length c1_1] 135 (0, 0)) (by (with_reducible repeat (first | refine bQ ?_ _ | refine bW ?_ | refine bP ?_ _)); exact BK470.out)) : gb470 ≠ gb471)); have n9_ := Aside0.mk ((by rw [hg]; exact Nat.ne_of_gt (blk_lt (g := gb470) (o := .cells #[.bool a1_0, .slice A1_1 l1_1.length c1_1] 135 (0, 0)) (by (with_reducible repeat (first | refine bQ ?_ _ | refine bW ?_ | refine bP ?_ _)); exact BK470.out)) : gb471 ≠ gb470)); clear BK469; clear BK470; clear HB; have BK469 := n0_; have BK470 := n1_; have HB := n2_; have BK471 := n3_; have GW471 := n4_; have GE471 := n5_; have NB469_471 := n6_; have NB471_469 := n7_; have NB470_471 := n8_; have NB471_470 := n9_; clear n0_ n1_ n2_ n3_ n4_ n5_ n6_ n7_ n8_ n9_; clear hb hbox hg; have hnb8 := NB469_470.out; have hnc8 := NB470_469.out; have hnb9 := NB469_471.out; have hnc9 := NB471_469.out; have hcz10_0 : w7.cell? ⟨gb469, 0, none⟩ = some (.bool a0_0) := (jG BK469.out 0).trans rfl; have hcz10_1 : w7.cell? ⟨gb469, 1, none⟩ = some (.slice A0_1 l0_1.length c0_1) := (jG BK469.out 1).trans rfl; have hfz10_0 := jK BK469.out 0; have hfz10_1 := jK BK469.out 1; have hnb11 := NB470_471.out; have hnc11 := NB471_470.out; have hcz12_0 : w7.cell? ⟨gb470, 0, none⟩ = some (.bool a1_0) := (jG BK470.out 0).trans rfl; have hcz12_1 : w7.cell? ⟨gb470, 1, none⟩ = some (.slice A1_1 l1_1.length c1_1) := (jG BK470.out 1).trans rfl; have hfz12_0 := jK BK470.out 0; have hfz12_1 := jK BK470.out 1) | ((with_reducible refine kW (f := 146) rfl ?_); refine jI (some 12) rfl rfl Tryz.func146 (by kernel_rfl) rfl #[.slice A0_1 l0_1.length c0_1, .slice A1_1 l1_1.length c1_1] rfl (by (try simp only [List.map_toArray, List.map_cons, List.map_nil]); first | done | rfl | (simp only [List.length_drop, List.length_take]; rfl)) ?_; (with_reducible refine (kY.calls k _ _ l0_1 _ _ l1_1 t472 t473 _ ?side1 ?side2 ?side3 ?side4 A3.out).mono ?_); (case side1 => repeat (first | exact (Kd.C_below HR0_1.out HB.out) | (with_reducible refine Kd.C_alloc ?_ _) | (with_reducible refine Kd.C_drewN ?_ _) | (with_reducible refine Kd.C_drew ?_))); (case side2 => exact HC0_1.out); (case side3 => repeat (first | exact (Kd.C_below HR1_1.out HB.out) | (with_reducible refine Kd.C_alloc ?_ _) | (with_reducible refine Kd.C_drewN ?_ _) | (with_reducible refine Kd.C_drew ?_))); (case side4 => exact HC1_1.out); rintro e w13 ⟨v474, v476, rfl, ho0, ho1, hb⟩; refine ⟨_, rfl, ?_⟩; have n0_ := Aside0.mk (Kd.R_lower ho0 (zF (by repeat (first | (with_reducible first | exact HB.out | apply kO | apply kF | apply kQ | refine bA ?_ GE469.out | refine bA ?_ GE470.out | refine bA ?_ GE471.out) | exact HB.out)))); have n1_ := Aside0.mk (Kd.R_lower ho1 (zF (by repeat (first | (with_reducible first | exact HB.out | apply kO | apply kF | apply kQ | refine bA ?_ GE469.out | refine bA ?_ GE470.out | refine bA ?_ GE471.out) | exact HB.out)))); have n2_ := Aside0.mk (zH (g := gb469) (o := .cells #[.bool a0_0, .slice A0_1 l0_1.length c0_1] 135 (0, 0)) (by (with_reducible repeat (first | refine bQ ?_ _ | refine bW ?_ | refine bP ?_ _)); exact BK469.out) hb); have n3_ := Aside0.mk (zH (g := gb470) (o := .cells #[.bool a1_0, .slice A1_1 l1_1.length c1_1] 135 (0, 0)) (by (with_reducible repeat (first | refine bQ ?_ _ | refine bW ?_ | refine bP ?_ _)); exact BK470.out) hb); have n4_ := Aside0.mk (zH (g := gb471) (o := .cells #[.bool false, .slice none 0 0] 135 (0, 0)) (by (with_reducible repeat (first | refine bQ ?_ _ | refine bW ?_ | refine bP ?_ _)); exact BK471.out) hb); have n5_ := Aside0.mk (jZ (by repeat (first | (with_reducible first | exact HB.out | apply kO | apply kF | apply kQ | refine bA ?_ GE469.out | refine bA ?_ GE470.out | refine bA ?_ GE471.out) | exact HB.out)) hb); clear BK469; clear BK470; clear BK471; clear HB; have HO475 := n0_; have HO477 := n1_; have BK469 := n2_; have BK470 := n3_; have BK471 := n4_; have HB := n5_; clear n0_ n1_ n2_ n3_ n4_ n5_; (try clear hb); (try clear hb2); (try clear hk); (try clear hi); (try clear ho0); (try clear ho1)))
 (try simp only [Act.put, List.setIfInBounds_toArray, List.set_cons_zero, List.set_cons_succ])
 go_cut [24] (fun v24 wc => ∃ (kq : Nat) (x24_3 : Bool), v24 = .bool x24_3 ∧ Aside0 (jU.j0 kq t472 x24_3 a0_0 l0_1 a1_0 l1_1 = some (r1, r2)) ∧ Aside0 (kq ≤ k) ∧ Aside0 (Kd.R (Kd.int .u64) 155 wc w.heap.size (fun _ => True) v474 t472) ∧ Aside0 (wc.heap[gb469]? = some (.cells #[.bool a0_0, (.slice A0_1 l0_1.length c0_1)] 135 (0, 0))) ∧ Aside0 (wc.heap[gb470]? = some (.cells #[.bool a1_0, (.slice A1_1 l1_1.length c1_1)] 135 (0, 0))) ∧ Aside0 (wc.heap[gb471]? = some (.cells #[.bool false, (.slice none 0 0)] 135 (0, 0))) ∧ Aside0 (Below w.heap.size w wc))
 case first =>
  have H := HC4.out
  clear HC4
  by_cases c14 : (a0_0 != a1_0) = true
  · rw [if_pos c14] at H
    have c14b0 : (a0_0 != a1_0) = true := c14
    (try (have c14b1 : decide (a0_0 = a1_0) = false := by simpa using c14))
    (try (have c14b2 : (a0_0 == a1_0) = false := by simpa using c14))
    (try (have c14b3 : ¬ (a0_0 = a1_0) := by simpa using c14))
    clear c14
    (first | rw [c14b0] | (simp only [qJ, qL]; rw [c14b0]) | skip)
    replace H := Option.bind_eq_some_iff.mp H
    obtain ⟨t478, A150, H⟩ := H
    replace H : (jU.j0 k t472 (!t478) a0_0 l0_1 a1_0 l1_1) = some (r1, r2) := H
    have A15 := Aside0.mk A150
    clear A150
    have H' := Aside0.mk H
    clear H
    have hnb16 := NB469_470.out
    have hnc16 := NB470_469.out
    have hnb17 := NB469_471.out
    have hnc17 := NB471_469.out
    have hcz18_0 : w13.cell? ⟨gb469, 0, none⟩ = some (.bool a0_0) := (jG BK469.out 0).trans rfl
    have hcz18_1 : w13.cell? ⟨gb469, 1, none⟩ = some (.slice A0_1 l0_1.length c0_1) := (jG BK469.out 1).trans rfl
    have hfz18_0 := jK BK469.out 0
    have hfz18_1 := jK BK469.out 1
    have hnb19 := NB470_471.out
    have hnc19 := NB471_470.out
    have hcz20_0 : w13.cell? ⟨gb470, 0, none⟩ = some (.bool a1_0) := (jG BK470.out 0).trans rfl
    have hcz20_1 : w13.cell? ⟨gb470, 1, none⟩ = some (.slice A1_1 l1_1.length c1_1) := (jG BK470.out 1).trans rfl
    have hfz20_0 := jK BK470.out 0
    have hfz20_1 := jK BK470.out 1
    obtain ⟨Ao21, co21, eo21⟩ := Kd.R_slice HO477.out
    subst eo21
    go_wp2_with (first | (go_at_call 136; (with_reducible refine (zJ.calls k _ _ t473 t478 _ ?side1 ?side2 A15.out).mono ?_); (case side1 => repeat (first | exact (Kd.R_reads' HO477.out).2.2 | (with_reducible refine Kd.C_alloc ?_ _) | (with_reducible refine Kd.C_drewN ?_ _) | (with_reducible refine Kd.C_drew ?_))); (case side2 => exact (Kd.R_reads' HO477.out).2.1); rintro e w22 ⟨rfl, hb⟩; have n0_ := Aside0.mk (Kd.R_below (by (with_reducible repeat (first | apply Kd.R_alloc | apply Kd.R_drewN | apply Kd.R_drew)); exact HO475.out) hb); have n1_ := Aside0.mk (Kd.R_below (by (with_reducible repeat (first | apply Kd.R_alloc | apply Kd.R_drewN | apply Kd.R_drew)); exact HO477.out) hb); have n2_ := Aside0.mk (zH (g := gb469) (o := .cells #[.bool a0_0, .slice A0_1 l0_1.length c0_1] 135 (0, 0)) (by (with_reducible repeat (first | refine bQ ?_ _ | refine bW ?_ | refine bP ?_ _)); exact BK469.out) hb); have n3_ := Aside0.mk (zH (g := gb470) (o := .cells #[.bool a1_0, .slice A1_1 l1_1.length c1_1] 135 (0, 0)) (by (with_reducible repeat (first | refine bQ ?_ _ | refine bW ?_ | refine bP ?_ _)); exact BK470.out) hb); have n4_ := Aside0.mk (zH (g := gb471) (o := .cells #[.bool false, .slice none 0 0] 135 (0, 0)) (by (with_reducible repeat (first | refine bQ ?_ _ | refine bW ?_ | refine bP ?_ _)); exact BK471.out) hb); have n5_ := Aside0.mk (jZ (by repeat (first | (with_reducible first | exact HB.out | apply kO | apply kF | apply kQ | refine bA ?_ GE469.out | refine bA ?_ GE470.out | refine bA ?_ GE471.out) | exact HB.out)) hb); clear HO475; clear HO477; clear BK469; clear BK470; clear BK471; clear HB; have HO475 := n0_; have HO477 := n1_; have BK469 := n2_; have BK470 := n3_; have BK471 := n4_; have HB := n5_; clear n0_ n1_ n2_ n3_ n4_ n5_; (try clear hb); (try clear hb2); (try clear hk); (try clear hi)))
    go_meet
    case rel => exact ⟨_, (!t478), (by first | rfl | (simp; done) | (simp [*]; done)), H', ⟨by first | omega | exact Nat.le_refl _⟩, ⟨by (with_reducible repeat (first | apply Kd.R_alloc | apply Kd.R_drewN | apply Kd.R_drew)); exact Kd.R_mono HO475.out (fun _ hk => trivial)⟩, ⟨by (with_reducible repeat (first | refine bQ ?_ _ | refine bW ?_ | refine bP ?_ _)); exact BK469.out⟩, ⟨by (with_reducible repeat (first | refine bQ ?_ _ | refine bW ?_ | refine bP ?_ _)); exact BK470.out⟩, ⟨by (with_reducible repeat (first | refine bQ ?_ _ | refine bW ?_ | refine bP ?_ _)); exact BK471.out⟩, ⟨by repeat (first | (with_reducible first | exact HB.out | apply kO | apply kF | apply kQ | refine bA ?_ GE469.out | refine bA ?_ GE470.out | refine bA ?_ GE471.out) | exact HB.out)⟩⟩
  · rw [if_neg c14] at H
    have c14b0 : (a0_0 != a1_0) = false := by simpa using c14
    (try (have c14b1 : decide (a0_0 = a1_0) = true := by simpa using c14))
    (try (have c14b2 : (a0_0 == a1_0) = true := by simpa using c14))
    clear c14
    (first | rw [c14b0] | (simp only [qJ, qL]; rw [c14b0]) | skip)
    have H' := Aside0.mk H
    clear H
    have hnb23 := NB469_470.out
    have hnc23 := NB470_469.out
    have hnb24 := NB469_471.out
    have hnc24 := NB471_469.out
    have hcz25_0 : w13.cell? ⟨gb469, 0, none⟩ = some (.bool a0_0) := (jG BK469.out 0).trans rfl
    have hcz25_1 : w13.cell? ⟨gb469, 1, none⟩ = some (.slice A0_1 l0_1.length c0_1) := (jG BK469.out 1).trans rfl
    have hfz25_0 := jK BK469.out 0
    have hfz25_1 := jK BK469.out 1
    have hnb26 := NB470_471.out
    have hnc26 := NB471_470.out
    have hcz27_0 : w13.cell? ⟨gb470, 0, none⟩ = some (.bool a1_0) := (jG BK470.out 0).trans rfl
    have hcz27_1 : w13.cell? ⟨gb470, 1, none⟩ = some (.slice A1_1 l1_1.length c1_1) := (jG BK470.out 1).trans rfl
    have hfz27_0 := jK BK470.out 0
    have hfz27_1 := jK BK470.out 1
    go_wp2
    go_meet
    case rel => exact ⟨_, (false), (by first | rfl | (simp; done) | (simp [*]; done)), H', ⟨by first | omega | exact Nat.le_refl _⟩, ⟨by (with_reducible repeat (first | apply Kd.R_alloc | apply Kd.R_drewN | apply Kd.R_drew)); exact Kd.R_mono HO475.out (fun _ hk => trivial)⟩, ⟨by (with_reducible repeat (first | refine bQ ?_ _ | refine bW ?_ | refine bP ?_ _)); exact BK469.out⟩, ⟨by (with_reducible repeat (first | refine bQ ?_ _ | refine bW ?_ | refine bP ?_ _)); exact BK470.out⟩, ⟨by (with_reducible repeat (first | refine bQ ?_ _ | refine bW ?_ | refine bP ?_ _)); exact BK471.out⟩, ⟨by repeat (first | (with_reducible first | exact HB.out | apply kO | apply kF | apply kQ | refine bA ?_ GE469.out | refine bA ?_ GE470.out | refine bA ?_ GE471.out) | exact HB.out)⟩⟩
 case rest =>
  clear HC4
  try clear c1
  try clear c2
  try clear p2
  try clear c8
  try clear c9
  try clear c11
  try clear c14
  try clear c14b0
  try clear c14b1
  try clear c14b2
  try clear c16
  try clear c17
  try clear c19
  try clear c23
  try clear c24
  try clear c26
  try clear hcz10_0
  try clear hcz10_1
  try clear hcz12_0
  try clear hcz12_1
  try clear hcz18_0
  try clear hcz18_1
  try clear hcz20_0
  try clear hcz20_1
  try clear hcz25_0
  try clear hcz25_1
  try clear hcz27_0
  try clear hcz27_1
  try clear hfz10_0
  try clear hfz10_1
  try clear hfz12_0
  try clear hfz12_1
  try clear hfz18_0
  try clear hfz18_1
  try clear hfz20_0
  try clear hfz20_1
  try clear hfz25_0
  try clear hfz25_1
  try clear hfz27_0
  try clear hfz27_1
  obtain ⟨kq, x24_3, rfl, HA, HJ3, HO_5, BK469, BK470, BK471, HB⟩ := hcut
  cases kq with
  | zero => exact absurd HA.out (by simp [jU.j0])
  | succ kj3 =>
   have H := HA.out
   clear HA
   simp only [jU.j0] at H
   by_cases c28 : x24_3 = true
   · subst c28
     have H1 : ((vF.f 1).bind fun bt479 => ((bI.f kj3 t472 bt479.2).bind fun t483 => (if (a0_0 != a1_0) = true then ((zJ.f kj3 t483).bind fun t486 => (some (!t486, t483))) else (some (false, t483))))) = some (r1, r2) := by rw [if_pos rfl] at H; exact H
     clear H
     have H := H1
     clear H1
     replace H := Option.bind_eq_some_iff.mp H
     obtain ⟨⟨t479, t480⟩, A290, H⟩ := H
     replace H : ((bI.f kj3 t472 t480).bind fun t483 => (if (a0_0 != a1_0) = true then ((zJ.f kj3 t483).bind fun t486 => (some (!t486, t483))) else (some (false, t483)))) = some (r1, r2) := H
     have A29 := Aside0.mk A290
     clear A290
     replace H := Option.bind_eq_some_iff.mp H
     obtain ⟨t483, A300, H⟩ := H
     replace H : (if (a0_0 != a1_0) = true then ((zJ.f kj3 t483).bind fun t486 => (some (!t486, t483))) else (some (false, t483))) = some (r1, r2) := H
     have A30 := Aside0.mk A300
     clear A300
     by_cases c31 : (a0_0 != a1_0) = true
     · rw [if_pos c31] at H
       have c31b0 : (a0_0 != a1_0) = true := c31
       (try (have c31b1 : decide (a0_0 = a1_0) = false := by simpa using c31))
       (try (have c31b2 : (a0_0 == a1_0) = false := by simpa using c31))
       (try (have c31b3 : ¬ (a0_0 = a1_0) := by simpa using c31))
       clear c31
       replace H := Option.bind_eq_some_iff.mp H
       obtain ⟨t486, A320, H⟩ := H
       replace H : (some (!t486, t483)) = some (r1, r2) := H
       have A32 := Aside0.mk A320
       clear A320
       simp only [Option.some.injEq, Prod.mk.injEq] at H
       obtain ⟨rfl, rfl⟩ := H
       go_wp2_with (first | ((with_reducible refine kW (f := 98) rfl ?_); refine jI (some 26) rfl rfl Tryz.func98 (by kernel_rfl) rfl #[.int .i64 1] rfl (by (try simp only [List.map_toArray, List.map_cons, List.map_nil]); first | done | rfl | (simp only [List.length_drop, List.length_take]; rfl)) ?_; (with_reducible refine (vF.calls 1 t479 t480 _ A29.out).mono ?_); rintro e w33 ⟨v481, rfl, ho0, hb⟩; refine ⟨_, rfl, ?_⟩; have n0_ := Aside0.mk (Kd.R_elder' (by (with_reducible repeat (first | apply Kd.R_alloc | apply Kd.R_drewN | apply Kd.R_drew)); exact HO_5.out) (Kd.R_base ho0) hb); have n1_ := Aside0.mk (Kd.R_lower (Kd.R_new' ho0 (Kd.R_lt (by (with_reducible repeat (first | apply Kd.R_alloc | apply Kd.R_drewN | apply Kd.R_drew)); exact HO_5.out))) (zF (by repeat (first | (with_reducible first | exact HB.out | apply kO | apply kF | apply kQ | refine bA ?_ GE469.out | refine bA ?_ GE470.out | refine bA ?_ GE471.out) | exact HB.out)))); have n2_ := Aside0.mk (zH (g := gb469) (o := .cells #[.bool a0_0, .slice A0_1 l0_1.length c0_1] 135 (0, 0)) (by (with_reducible repeat (first | refine bQ ?_ _ | refine bW ?_ | refine bP ?_ _)); exact BK469.out) hb); have n3_ := Aside0.mk (zH (g := gb470) (o := .cells #[.bool a1_0, .slice A1_1 l1_1.length c1_1] 135 (0, 0)) (by (with_reducible repeat (first | refine bQ ?_ _ | refine bW ?_ | refine bP ?_ _)); exact BK470.out) hb); have n4_ := Aside0.mk (zH (g := gb471) (o := .cells #[.bool false, .slice none 0 0] 135 (0, 0)) (by (with_reducible repeat (first | refine bQ ?_ _ | refine bW ?_ | refine bP ?_ _)); exact BK471.out) hb); have n5_ := Aside0.mk (jZ (by repeat (first | (with_reducible first | exact HB.out | apply kO | apply kF | apply kQ | refine bA ?_ GE469.out | refine bA ?_ GE470.out | refine bA ?_ GE471.out) | exact HB.out)) hb); clear HO_5; clear BK469; clear BK470; clear BK471; clear HB; have HO_5 := n0_; have HO482 := n1_; have BK469 := n2_; have BK470 := n3_; have BK471 := n4_; have HB := n5_; clear n0_ n1_ n2_ n3_ n4_ n5_; (try clear hb); (try clear hb2); (try clear hk); (try clear hi); (try clear ho0); obtain ⟨Ao34, co34, eo34⟩ := Kd.R_slice HO_5.out; subst eo34; obtain ⟨Ao35, co35, eo35⟩ := Kd.R_slice HO482.out; subst eo35) | ((with_reducible refine kW (f := 133) rfl ?_); refine jI (some 28) rfl rfl Tryz.func133 (by kernel_rfl) rfl #[.slice Ao34 t472.length co34, .slice Ao35 t480.length co35] rfl (by (try simp only [List.map_toArray, List.map_cons, List.map_nil]); first | done | rfl | (simp only [List.length_drop, List.length_take]; rfl)) ?_; (with_reducible refine (bI.calls kj3 _ _ t472 _ _ t480 t483 _ ?side1 ?side2 ?side3 ?side4 A30.out).mono ?_); (case side1 => repeat (first | exact (Kd.R_reads' HO_5.out).2.2 | (with_reducible refine Kd.C_alloc ?_ _) | (with_reducible refine Kd.C_drewN ?_ _) | (with_reducible refine Kd.C_drew ?_))); (case side2 => exact (Kd.R_reads' HO_5.out).2.1); (case side3 => repeat (first | exact (Kd.R_reads' HO482.out).2.2 | (with_reducible refine Kd.C_alloc ?_ _) | (with_reducible refine Kd.C_drewN ?_ _) | (with_reducible refine Kd.C_drew ?_))); (case side4 => exact (Kd.R_reads' HO482.out).2.1); rintro e w36 ⟨v484, rfl, ho0, hb⟩; refine ⟨_, rfl, ?_⟩; have n0_ := Aside0.mk (Kd.R_elder' (by (with_reducible repeat (first | apply Kd.R_alloc | apply Kd.R_drewN | apply Kd.R_drew)); exact HO_5.out) (Kd.R_base ho0) hb); have n1_ := Aside0.mk (Kd.R_elder' (by (with_reducible repeat (first | apply Kd.R_alloc | apply Kd.R_drewN | apply Kd.R_drew)); exact HO482.out) (Kd.R_base ho0) hb); have n2_ := Aside0.mk (Kd.R_lower (Kd.R_new' (Kd.R_new' ho0 (Kd.R_lt (by (with_reducible repeat (first | apply Kd.R_alloc | apply Kd.R_drewN | apply Kd.R_drew)); exact HO_5.out))) (Kd.R_lt (by (with_reducible repeat (first | apply Kd.R_alloc | apply Kd.R_drewN | apply Kd.R_drew)); exact HO482.out))) (zF (by repeat (first | (with_reducible first | exact HB.out | apply kO | apply kF | apply kQ | refine bA ?_ GE469.out | refine bA ?_ GE470.out | refine bA ?_ GE471.out) | exact HB.out)))); have n3_ := Aside0.mk (zH (g := gb469) (o := .cells #[.bool a0_0, .slice A0_1 l0_1.length c0_1] 135 (0, 0)) (by (with_reducible repeat (first | refine bQ ?_ _ | refine bW ?_ | refine bP ?_ _)); exact BK469.out) hb); have n4_ := Aside0.mk (zH (g := gb470) (o := .cells #[.bool a1_0, .slice A1_1 l1_1.length c1_1] 135 (0, 0)) (by (with_reducible repeat (first | refine bQ ?_ _ | refine bW ?_ | refine bP ?_ _)); exact BK470.out) hb); have n5_ := Aside0.mk (zH (g := gb471) (o := .cells #[.bool false, .slice none 0 0] 135 (0, 0)) (by (with_reducible repeat (first | refine bQ ?_ _ | refine bW ?_ | refine bP ?_ _)); exact BK471.out) hb); have n6_ := Aside0.mk (jZ (by repeat (first | (with_reducible first | exact HB.out | apply kO | apply kF | apply kQ | refine bA ?_ GE469.out | refine bA ?_ GE470.out | refine bA ?_ GE471.out) | exact HB.out)) hb); clear HO_5; clear HO482; clear BK469; clear BK470; clear BK471; clear HB; have HO_5 := n0_; have HO482 := n1_; have HO485 := n2_; have BK469 := n3_; have BK470 := n4_; have BK471 := n5_; have HB := n6_; clear n0_ n1_ n2_ n3_ n4_ n5_ n6_; (try clear hb); (try clear hb2); (try clear hk); (try clear hi); (try clear ho0); have hnb37 := NB469_470.out; have hnc37 := NB470_469.out; have hnb38 := NB469_471.out; have hnc38 := NB471_469.out; have hcz39_0 : w36.cell? ⟨gb469, 0, none⟩ = some (.bool a0_0) := (jG BK469.out 0).trans rfl; have hcz39_1 : w36.cell? ⟨gb469, 1, none⟩ = some (.slice A0_1 l0_1.length c0_1) := (jG BK469.out 1).trans rfl; have hfz39_0 := jK BK469.out 0; have hfz39_1 := jK BK469.out 1; have hnb40 := NB470_471.out; have hnc40 := NB471_470.out; have hcz41_0 : w36.cell? ⟨gb470, 0, none⟩ = some (.bool a1_0) := (jG BK470.out 0).trans rfl; have hcz41_1 : w36.cell? ⟨gb470, 1, none⟩ = some (.slice A1_1 l1_1.length c1_1) := (jG BK470.out 1).trans rfl; have hfz41_0 := jK BK470.out 0; have hfz41_1 := jK BK470.out 1; obtain ⟨Ao42, co42, eo42⟩ := Kd.R_slice HO485.out; subst eo42) | (go_at_call 136; (with_reducible refine (zJ.calls kj3 _ _ t483 t486 _ ?side1 ?side2 A32.out).mono ?_); (case side1 => repeat (first | exact (Kd.R_reads' HO485.out).2.2 | (with_reducible refine Kd.C_alloc ?_ _) | (with_reducible refine Kd.C_drewN ?_ _) | (with_reducible refine Kd.C_drew ?_))); (case side2 => exact (Kd.R_reads' HO485.out).2.1); rintro e w43 ⟨rfl, hb⟩; have n0_ := Aside0.mk (Kd.R_below (by (with_reducible repeat (first | apply Kd.R_alloc | apply Kd.R_drewN | apply Kd.R_drew)); exact HO_5.out) hb); have n1_ := Aside0.mk (Kd.R_below (by (with_reducible repeat (first | apply Kd.R_alloc | apply Kd.R_drewN | apply Kd.R_drew)); exact HO482.out) hb); have n2_ := Aside0.mk (Kd.R_below (by (with_reducible repeat (first | apply Kd.R_alloc | apply Kd.R_drewN | apply Kd.R_drew)); exact HO485.out) hb); have n3_ := Aside0.mk (zH (g := gb469) (o := .cells #[.bool a0_0, .slice A0_1 l0_1.length c0_1] 135 (0, 0)) (by (with_reducible repeat (first | refine bQ ?_ _ | refine bW ?_ | refine bP ?_ _)); exact BK469.out) hb); have n4_ := Aside0.mk (zH (g := gb470) (o := .cells #[.bool a1_0, .slice A1_1 l1_1.length c1_1] 135 (0, 0)) (by (with_reducible repeat (first | refine bQ ?_ _ | refine bW ?_ | refine bP ?_ _)); exact BK470.out) hb); have n5_ := Aside0.mk (zH (g := gb471) (o := .cells #[.bool false, .slice none 0 0] 135 (0, 0)) (by (with_reducible repeat (first | refine bQ ?_ _ | refine bW ?_ | refine bP ?_ _)); exact BK471.out) hb); have n6_ := Aside0.mk (jZ (by repeat (first | (with_reducible first | exact HB.out | apply kO | apply kF | apply kQ | refine bA ?_ GE469.out | refine bA ?_ GE470.out | refine bA ?_ GE471.out) | exact HB.out)) hb); clear HO_5; clear HO482; clear HO485; clear BK469; clear BK470; clear BK471; clear HB; have HO_5 := n0_; have HO482 := n1_; have HO485 := n2_; have BK469 := n3_; have BK470 := n4_; have BK471 := n5_; have HB := n6_; clear n0_ n1_ n2_ n3_ n4_ n5_ n6_; (try clear hb); (try clear hb2); (try clear hk); (try clear hi); have hcz44_0 : w43.cell? ⟨gb471, 0, none⟩ = some (.bool false) := (jG BK471.out 0).trans rfl; have hcz44_1 : w43.cell? ⟨gb471, 1, none⟩ = some (.slice none 0 0) := (jG BK471.out 1).trans rfl; have hfz44_0 := jK BK471.out 0; have hfz44_1 := jK BK471.out 1))
       refine bodyPost_ret (results_cell_row rfl _ _ gb471 135 #[.bool (!t486), .slice Ao42 t483.length co42] (0, 0) _ rfl (by (with_reducible repeat (first | refine bQ ?_ _ | refine bW ?_ | refine bP ?_ _)); refine blk_put (cs := #[.bool (!t486), .slice none 0 0]) ?_ 1 _ rfl; (with_reducible repeat (first | refine bQ ?_ _ | refine bW ?_ | refine bP ?_ _)); refine blk_put (cs := #[.bool false, .slice none 0 0]) ?_ 0 _ rfl; (with_reducible repeat (first | refine bQ ?_ _ | refine bW ?_ | refine bP ?_ _)); exact BK471.out) Tryz.underlying135 rfl (by kernel_rfl)) rfl ?_
       exact ⟨_, by first | rfl | (simp [zR, zS] <;> rfl) | (simp [*, zR, zS] <;> rfl), by (with_reducible repeat (first | apply Kd.R_alloc | apply Kd.R_drewN | apply Kd.R_drew)); exact Kd.R_mono (Kd.R_far (p := ⟨gb471, 1, none⟩) (Kd.R_far (p := ⟨gb471, 0, none⟩) (Kd.R_types HO485.out BK471.out (by decide)) (fun _ hk => hk.2) (.bool (!t486))) (fun _ hk => hk.2) (.slice Ao42 t483.length co42)) (fun _ hk => trivial), by repeat (first | (with_reducible first | exact HB.out | apply kO | apply kF | apply kQ | refine bA ?_ GE469.out | refine bA ?_ GE470.out | refine bA ?_ GE471.out) | exact HB.out)⟩
     · rw [if_neg c31] at H
       have c31b0 : (a0_0 != a1_0) = false := by simpa using c31
       (try (have c31b1 : decide (a0_0 = a1_0) = true := by simpa using c31))
       (try (have c31b2 : (a0_0 == a1_0) = true := by simpa using c31))
       clear c31
       simp only [Option.some.injEq, Prod.mk.injEq] at H
       obtain ⟨rfl, rfl⟩ := H
       go_wp2_with (first | ((with_reducible refine kW (f := 98) rfl ?_); refine jI (some 26) rfl rfl Tryz.func98 (by kernel_rfl) rfl #[.int .i64 1] rfl (by (try simp only [List.map_toArray, List.map_cons, List.map_nil]); first | done | rfl | (simp only [List.length_drop, List.length_take]; rfl)) ?_; (with_reducible refine (vF.calls 1 t479 t480 _ A29.out).mono ?_); rintro e w45 ⟨v481, rfl, ho0, hb⟩; refine ⟨_, rfl, ?_⟩; have n0_ := Aside0.mk (Kd.R_elder' (by (with_reducible repeat (first | apply Kd.R_alloc | apply Kd.R_drewN | apply Kd.R_drew)); exact HO_5.out) (Kd.R_base ho0) hb); have n1_ := Aside0.mk (Kd.R_lower (Kd.R_new' ho0 (Kd.R_lt (by (with_reducible repeat (first | apply Kd.R_alloc | apply Kd.R_drewN | apply Kd.R_drew)); exact HO_5.out))) (zF (by repeat (first | (with_reducible first | exact HB.out | apply kO | apply kF | apply kQ | refine bA ?_ GE469.out | refine bA ?_ GE470.out | refine bA ?_ GE471.out) | exact HB.out)))); have n2_ := Aside0.mk (zH (g := gb469) (o := .cells #[.bool a0_0, .slice A0_1 l0_1.length c0_1] 135 (0, 0)) (by (with_reducible repeat (first | refine bQ ?_ _ | refine bW ?_ | refine bP ?_ _)); exact BK469.out) hb); have n3_ := Aside0.mk (zH (g := gb470) (o := .cells #[.bool a1_0, .slice A1_1 l1_1.length c1_1] 135 (0, 0)) (by (with_reducible repeat (first | refine bQ ?_ _ | refine bW ?_ | refine bP ?_ _)); exact BK470.out) hb); have n4_ := Aside0.mk (zH (g := gb471) (o := .cells #[.bool false, .slice none 0 0] 135 (0, 0)) (by (with_reducible repeat (first | refine bQ ?_ _ | refine bW ?_ | refine bP ?_ _)); exact BK471.out) hb); have n5_ := Aside0.mk (jZ (by repeat (first | (with_reducible first | exact HB.out | apply kO | apply kF | apply kQ | refine bA ?_ GE469.out | refine bA ?_ GE470.out | refine bA ?_ GE471.out) | exact HB.out)) hb); clear HO_5; clear BK469; clear BK470; clear BK471; clear HB; have HO_5 := n0_; have HO482 := n1_; have BK469 := n2_; have BK470 := n3_; have BK471 := n4_; have HB := n5_; clear n0_ n1_ n2_ n3_ n4_ n5_; (try clear hb); (try clear hb2); (try clear hk); (try clear hi); (try clear ho0); obtain ⟨Ao46, co46, eo46⟩ := Kd.R_slice HO_5.out; subst eo46; obtain ⟨Ao47, co47, eo47⟩ := Kd.R_slice HO482.out; subst eo47) | ((with_reducible refine kW (f := 133) rfl ?_); refine jI (some 28) rfl rfl Tryz.func133 (by kernel_rfl) rfl #[.slice Ao46 t472.length co46, .slice Ao47 t480.length co47] rfl (by (try simp only [List.map_toArray, List.map_cons, List.map_nil]); first | done | rfl | (simp only [List.length_drop, List.length_take]; rfl)) ?_; (with_reducible refine (bI.calls kj3 _ _ t472 _ _ t480 t483 _ ?side1 ?side2 ?side3 ?side4 A30.out).mono ?_); (case side1 => repeat (first | exact (Kd.R_reads' HO_5.out).2.2 | (with_reducible refine Kd.C_alloc ?_ _) | (with_reducible refine Kd.C_drewN ?_ _) | (with_reducible refine Kd.C_drew ?_))); (case side2 => exact (Kd.R_reads' HO_5.out).2.1); (case side3 => repeat (first | exact (Kd.R_reads' HO482.out).2.2 | (with_reducible refine Kd.C_alloc ?_ _) | (with_reducible refine Kd.C_drewN ?_ _) | (with_reducible refine Kd.C_drew ?_))); (case side4 => exact (Kd.R_reads' HO482.out).2.1); rintro e w48 ⟨v484, rfl, ho0, hb⟩; refine ⟨_, rfl, ?_⟩; have n0_ := Aside0.mk (Kd.R_elder' (by (with_reducible repeat (first | apply Kd.R_alloc | apply Kd.R_drewN | apply Kd.R_drew)); exact HO_5.out) (Kd.R_base ho0) hb); have n1_ := Aside0.mk (Kd.R_elder' (by (with_reducible repeat (first | apply Kd.R_alloc | apply Kd.R_drewN | apply Kd.R_drew)); exact HO482.out) (Kd.R_base ho0) hb); have n2_ := Aside0.mk (Kd.R_lower (Kd.R_new' (Kd.R_new' ho0 (Kd.R_lt (by (with_reducible repeat (first | apply Kd.R_alloc | apply Kd.R_drewN | apply Kd.R_drew)); exact HO_5.out))) (Kd.R_lt (by (with_reducible repeat (first | apply Kd.R_alloc | apply Kd.R_drewN | apply Kd.R_drew)); exact HO482.out))) (zF (by repeat (first | (with_reducible first | exact HB.out | apply kO | apply kF | apply kQ | refine bA ?_ GE469.out | refine bA ?_ GE470.out | refine bA ?_ GE471.out) | exact HB.out)))); have n3_ := Aside0.mk (zH (g := gb469) (o := .cells #[.bool a0_0, .slice A0_1 l0_1.length c0_1] 135 (0, 0)) (by (with_reducible repeat (first | refine bQ ?_ _ | refine bW ?_ | refine bP ?_ _)); exact BK469.out) hb); have n4_ := Aside0.mk (zH (g := gb470) (o := .cells #[.bool a1_0, .slice A1_1 l1_1.length c1_1] 135 (0, 0)) (by (with_reducible repeat (first | refine bQ ?_ _ | refine bW ?_ | refine bP ?_ _)); exact BK470.out) hb); have n5_ := Aside0.mk (zH (g := gb471) (o := .cells #[.bool false, .slice none 0 0] 135 (0, 0)) (by (with_reducible repeat (first | refine bQ ?_ _ | refine bW ?_ | refine bP ?_ _)); exact BK471.out) hb); have n6_ := Aside0.mk (jZ (by repeat (first | (with_reducible first | exact HB.out | apply kO | apply kF | apply kQ | refine bA ?_ GE469.out | refine bA ?_ GE470.out | refine bA ?_ GE471.out) | exact HB.out)) hb); clear HO_5; clear HO482; clear BK469; clear BK470; clear BK471; clear HB; have HO_5 := n0_; have HO482 := n1_; have HO485 := n2_; have BK469 := n3_; have BK470 := n4_; have BK471 := n5_; have HB := n6_; clear n0_ n1_ n2_ n3_ n4_ n5_ n6_; (try clear hb); (try clear hb2); (try clear hk); (try clear hi); (try clear ho0); have hnb49 := NB469_470.out; have hnc49 := NB470_469.out; have hnb50 := NB469_471.out; have hnc50 := NB471_469.out; have hcz51_0 : w48.cell? ⟨gb469, 0, none⟩ = some (.bool a0_0) := (jG BK469.out 0).trans rfl; have hcz51_1 : w48.cell? ⟨gb469, 1, none⟩ = some (.slice A0_1 l0_1.length c0_1) := (jG BK469.out 1).trans rfl; have hfz51_0 := jK BK469.out 0; have hfz51_1 := jK BK469.out 1; have hnb52 := NB470_471.out; have hnc52 := NB471_470.out; have hcz53_0 : w48.cell? ⟨gb470, 0, none⟩ = some (.bool a1_0) := (jG BK470.out 0).trans rfl; have hcz53_1 : w48.cell? ⟨gb470, 1, none⟩ = some (.slice A1_1 l1_1.length c1_1) := (jG BK470.out 1).trans rfl; have hfz53_0 := jK BK470.out 0; have hfz53_1 := jK BK470.out 1; obtain ⟨Ao54, co54, eo54⟩ := Kd.R_slice HO485.out; subst eo54; have hcz55_0 : w48.cell? ⟨gb471, 0, none⟩ = some (.bool false) := (jG BK471.out 0).trans rfl; have hcz55_1 : w48.cell? ⟨gb471, 1, none⟩ = some (.slice none 0 0) := (jG BK471.out 1).trans rfl; have hfz55_0 := jK BK471.out 0; have hfz55_1 := jK BK471.out 1))
       refine bodyPost_ret (results_cell_row rfl _ _ gb471 135 #[.bool false, .slice Ao54 t483.length co54] (0, 0) _ rfl (by (with_reducible repeat (first | refine bQ ?_ _ | refine bW ?_ | refine bP ?_ _)); refine blk_put (cs := #[.bool false, .slice none 0 0]) ?_ 1 _ rfl; (with_reducible repeat (first | refine bQ ?_ _ | refine bW ?_ | refine bP ?_ _)); refine blk_put (cs := #[.bool false, .slice none 0 0]) ?_ 0 _ rfl; (with_reducible repeat (first | refine bQ ?_ _ | refine bW ?_ | refine bP ?_ _)); exact BK471.out) Tryz.underlying135 rfl (by kernel_rfl)) rfl ?_
       exact ⟨_, by first | rfl | (simp [zR, zS] <;> rfl) | (simp [*, zR, zS] <;> rfl), by (with_reducible repeat (first | apply Kd.R_alloc | apply Kd.R_drewN | apply Kd.R_drew)); exact Kd.R_mono (Kd.R_far (p := ⟨gb471, 1, none⟩) (Kd.R_far (p := ⟨gb471, 0, none⟩) (Kd.R_types HO485.out BK471.out (by decide)) (fun _ hk => hk.2) (.bool false)) (fun _ hk => hk.2) (.slice Ao54 t483.length co54)) (fun _ hk => trivial), by repeat (first | (with_reducible first | exact HB.out | apply kO | apply kF | apply kQ | refine bA ?_ GE469.out | refine bA ?_ GE470.out | refine bA ?_ GE471.out) | exact HB.out)⟩
   · replace c28 := Bool.eq_false_iff.mpr c28
     subst c28
     have H1 : (if (a0_0 != a1_0) = true then ((zJ.f kj3 t472).bind fun t487 => (some (!t487, t472))) else (some (false, t472))) = some (r1, r2) := by rw [if_neg (show ¬ (false = true) by decide)] at H; exact H
     clear H
     have H := H1
     clear H1
     by_cases c56 : (a0_0 != a1_0) = true
     · rw [if_pos c56] at H
       have c56b0 : (a0_0 != a1_0) = true := c56
       (try (have c56b1 : decide (a0_0 = a1_0) = false := by simpa using c56))
       (try (have c56b2 : (a0_0 == a1_0) = false := by simpa using c56))
       (try (have c56b3 : ¬ (a0_0 = a1_0) := by simpa using c56))
       clear c56
       replace H := Option.bind_eq_some_iff.mp H
       obtain ⟨t487, A570, H⟩ := H
       replace H : (some (!t487, t472)) = some (r1, r2) := H
       have A57 := Aside0.mk A570
       clear A570
       simp only [Option.some.injEq, Prod.mk.injEq] at H
       obtain ⟨rfl, rfl⟩ := H
       have hnb58 := NB469_470.out
       have hnc58 := NB470_469.out
       have hnb59 := NB469_471.out
       have hnc59 := NB471_469.out
       have hcz60_0 : wc.cell? ⟨gb469, 0, none⟩ = some (.bool a0_0) := (jG BK469.out 0).trans rfl
       have hcz60_1 : wc.cell? ⟨gb469, 1, none⟩ = some (.slice A0_1 l0_1.length c0_1) := (jG BK469.out 1).trans rfl
       have hfz60_0 := jK BK469.out 0
       have hfz60_1 := jK BK469.out 1
       have hnb61 := NB470_471.out
       have hnc61 := NB471_470.out
       have hcz62_0 : wc.cell? ⟨gb470, 0, none⟩ = some (.bool a1_0) := (jG BK470.out 0).trans rfl
       have hcz62_1 : wc.cell? ⟨gb470, 1, none⟩ = some (.slice A1_1 l1_1.length c1_1) := (jG BK470.out 1).trans rfl
       have hfz62_0 := jK BK470.out 0
       have hfz62_1 := jK BK470.out 1
       obtain ⟨Ao63, co63, eo63⟩ := Kd.R_slice HO_5.out
       subst eo63
       go_wp2_with (first | (go_at_call 136; (with_reducible refine (zJ.calls kj3 _ _ t472 t487 _ ?side1 ?side2 A57.out).mono ?_); (case side1 => repeat (first | exact (Kd.R_reads' HO_5.out).2.2 | (with_reducible refine Kd.C_alloc ?_ _) | (with_reducible refine Kd.C_drewN ?_ _) | (with_reducible refine Kd.C_drew ?_))); (case side2 => exact (Kd.R_reads' HO_5.out).2.1); rintro e w64 ⟨rfl, hb⟩; have n0_ := Aside0.mk (Kd.R_below (by (with_reducible repeat (first | apply Kd.R_alloc | apply Kd.R_drewN | apply Kd.R_drew)); exact HO_5.out) hb); have n1_ := Aside0.mk (zH (g := gb469) (o := .cells #[.bool a0_0, .slice A0_1 l0_1.length c0_1] 135 (0, 0)) (by (with_reducible repeat (first | refine bQ ?_ _ | refine bW ?_ | refine bP ?_ _)); exact BK469.out) hb); have n2_ := Aside0.mk (zH (g := gb470) (o := .cells #[.bool a1_0, .slice A1_1 l1_1.length c1_1] 135 (0, 0)) (by (with_reducible repeat (first | refine bQ ?_ _ | refine bW ?_ | refine bP ?_ _)); exact BK470.out) hb); have n3_ := Aside0.mk (zH (g := gb471) (o := .cells #[.bool false, .slice none 0 0] 135 (0, 0)) (by (with_reducible repeat (first | refine bQ ?_ _ | refine bW ?_ | refine bP ?_ _)); exact BK471.out) hb); have n4_ := Aside0.mk (jZ (by repeat (first | (with_reducible first | exact HB.out | apply kO | apply kF | apply kQ | refine bA ?_ GE469.out | refine bA ?_ GE470.out | refine bA ?_ GE471.out) | exact HB.out)) hb); clear HO_5; clear BK469; clear BK470; clear BK471; clear HB; have HO_5 := n0_; have BK469 := n1_; have BK470 := n2_; have BK471 := n3_; have HB := n4_; clear n0_ n1_ n2_ n3_ n4_; (try clear hb); (try clear hb2); (try clear hk); (try clear hi); have hcz65_0 : w64.cell? ⟨gb471, 0, none⟩ = some (.bool false) := (jG BK471.out 0).trans rfl; have hcz65_1 : w64.cell? ⟨gb471, 1, none⟩ = some (.slice none 0 0) := (jG BK471.out 1).trans rfl; have hfz65_0 := jK BK471.out 0; have hfz65_1 := jK BK471.out 1))
       refine bodyPost_ret (results_cell_row rfl _ _ gb471 135 #[.bool (!t487), .slice Ao63 t472.length co63] (0, 0) _ rfl (by (with_reducible repeat (first | refine bQ ?_ _ | refine bW ?_ | refine bP ?_ _)); refine blk_put (cs := #[.bool (!t487), .slice none 0 0]) ?_ 1 _ rfl; (with_reducible repeat (first | refine bQ ?_ _ | refine bW ?_ | refine bP ?_ _)); refine blk_put (cs := #[.bool false, .slice none 0 0]) ?_ 0 _ rfl; (with_reducible repeat (first | refine bQ ?_ _ | refine bW ?_ | refine bP ?_ _)); exact BK471.out) Tryz.underlying135 rfl (by kernel_rfl)) rfl ?_
       exact ⟨_, by first | rfl | (simp [zR, zS] <;> rfl) | (simp [*, zR, zS] <;> rfl), by (with_reducible repeat (first | apply Kd.R_alloc | apply Kd.R_drewN | apply Kd.R_drew)); exact Kd.R_mono (Kd.R_far (p := ⟨gb471, 1, none⟩) (Kd.R_far (p := ⟨gb471, 0, none⟩) (Kd.R_types HO_5.out BK471.out (by decide)) (fun _ hk => hk.2) (.bool (!t487))) (fun _ hk => hk.2) (.slice Ao63 t472.length co63)) (fun _ hk => trivial), by repeat (first | (with_reducible first | exact HB.out | apply kO | apply kF | apply kQ | refine bA ?_ GE469.out | refine bA ?_ GE470.out | refine bA ?_ GE471.out) | exact HB.out)⟩
     · rw [if_neg c56] at H
       have c56b0 : (a0_0 != a1_0) = false := by simpa using c56
       (try (have c56b1 : decide (a0_0 = a1_0) = true := by simpa using c56))
       (try (have c56b2 : (a0_0 == a1_0) = true := by simpa using c56))
       clear c56
       simp only [Option.some.injEq, Prod.mk.injEq] at H
       obtain ⟨rfl, rfl⟩ := H
       have hnb66 := NB469_470.out
       have hnc66 := NB470_469.out
       have hnb67 := NB469_471.out
       have hnc67 := NB471_469.out
       have hcz68_0 : wc.cell? ⟨gb469, 0, none⟩ = some (.bool a0_0) := (jG BK469.out 0).trans rfl
       have hcz68_1 : wc.cell? ⟨gb469, 1, none⟩ = some (.slice A0_1 l0_1.length c0_1) := (jG BK469.out 1).trans rfl
       have hfz68_0 := jK BK469.out 0
       have hfz68_1 := jK BK469.out 1
       have hnb69 := NB470_471.out
       have hnc69 := NB471_470.out
       have hcz70_0 : wc.cell? ⟨gb470, 0, none⟩ = some (.bool a1_0) := (jG BK470.out 0).trans rfl
       have hcz70_1 : wc.cell? ⟨gb470, 1, none⟩ = some (.slice A1_1 l1_1.length c1_1) := (jG BK470.out 1).trans rfl
       have hfz70_0 := jK BK470.out 0
       have hfz70_1 := jK BK470.out 1
       obtain ⟨Ao71, co71, eo71⟩ := Kd.R_slice HO_5.out
       subst eo71
       have hcz72_0 : wc.cell? ⟨gb471, 0, none⟩ = some (.bool false) := (jG BK471.out 0).trans rfl
       have hcz72_1 : wc.cell? ⟨gb471, 1, none⟩ = some (.slice none 0 0) := (jG BK471.out 1).trans rfl
       have hfz72_0 := jK BK471.out 0
       have hfz72_1 := jK BK471.out 1
       go_wp2
       refine bodyPost_ret (results_cell_row rfl _ _ gb471 135 #[.bool false, .slice Ao71 t472.length co71] (0, 0) _ rfl (by (with_reducible repeat (first | refine bQ ?_ _ | refine bW ?_ | refine bP ?_ _)); refine blk_put (cs := #[.bool false, .slice none 0 0]) ?_ 1 _ rfl; (with_reducible repeat (first | refine bQ ?_ _ | refine bW ?_ | refine bP ?_ _)); refine blk_put (cs := #[.bool false, .slice none 0 0]) ?_ 0 _ rfl; (with_reducible repeat (first | refine bQ ?_ _ | refine bW ?_ | refine bP ?_ _)); exact BK471.out) Tryz.underlying135 rfl (by kernel_rfl)) rfl ?_
       exact ⟨_, by first | rfl | (simp [zR, zS] <;> rfl) | (simp [*, zR, zS] <;> rfl), by (with_reducible repeat (first | apply Kd.R_alloc | apply Kd.R_drewN | apply Kd.R_drew)); exact Kd.R_mono (Kd.R_far (p := ⟨gb471, 1, none⟩) (Kd.R_far (p := ⟨gb471, 0, none⟩) (Kd.R_types HO_5.out BK471.out (by decide)) (fun _ hk => hk.2) (.bool false)) (fun _ hk => hk.2) (.slice Ao71 t472.length co71)) (fun _ hk => trivial), by repeat (first | (with_reducible first | exact HB.out | apply kO | apply kF | apply kQ | refine bA ?_ GE469.out | refine bA ?_ GE470.out | refine bA ?_ GE471.out) | exact HB.out)⟩
end Go.Proofs.YtimgphlfaninnaaGreat.P
namespace Go.Proofs.YtimgphlfaninnaaGreat.Civ
set_option linter.unusedVariables false
set_option linter.unusedSimpArgs false
open Go.RowKit Go.Proofs.YtimgphlfaninnaaGreatW.PrintWords Go.Proofs.YtimgphlfaninnaaGreatW.PrintLast Go.Proofs.YtimgphlfaninnaaGreatW.PrintMore Go.Proofs.YtimgphlfaninnaaGreat.P
def Half (x : Int) : Prop := -3138550867693340381917894711603833208051177722232017256448 ≤ x ∧ x ≤ 3138550867693340381917894711603833208051177722232017256448
theorem ab_half {x : Int} (h : Half x) : 0 ≤ ab x ∧ ab x ≤ 3138550867693340381917894711603833208051177722232017256448 := by unfold Half at h; unfold ab; split <;> omega
theorem i64_word {a : Int} (ha : I64 a) : -18446744073709551615 ≤ a ∧ a ≤ 18446744073709551615 := by unfold I64 at ha; omega
theorem divide_ev (a b : Int) (ha : 0 ≤ a) (ha1 : a < 6277101735386680763835789423207666416102355444464034512896) (hb : 0 < b) (hb1 : b ≤ 3138550867693340381917894711603833208051177722232017256448) :
 Ev (fun k => kY.f k (dig a) (dig b)) (dig (a / b), dig (a % b)) := by
 unfold kY.f
 refine Ev.pos (by decide) ?_
 have h := divide_loop a b ha ha1 hb hb1 192 0 0 (by omega) (by omega) (by omega) hb (by
  have : a / 2 ^ 192 = 0 := Int.ediv_eq_zero_of_lt ha ha1
  rw [this]; simp)
 exact h
theorem fl_signs1 {x y : Int} (hy : y ≠ 0) : fl x y = if (ng x != ng y) = true then (if ab x % ab y = 0 then -(ab x / ab y) else -(ab x / ab y) - 1) else ab x / ab y := by
 have h := fl_signs (a := x) (b := 1) (c := y) rfl rfl hy
 rw [Int.mul_one, ab_pos (a := 1) (by omega), Int.mul_one] at h
 rw [h]
 have e : (((decide (x < 0)) != (decide ((1 : Int) < 0))) != (decide (y < 0))) = (ng x != ng y) := by
  unfold ng; rw [show decide ((1 : Int) < 0) = false from rfl]; cases decide (x < 0) <;> cases decide (y < 0) <;> rfl
 rw [e]
theorem over_ev {x y : Int} (hx : Half x) (hy : Half y) (h0 : y ≠ 0) : Ev (fun k => jU.f k (ng x) (dg x) (ng y) (dg y)) (ng (fl x y), dg (fl x y)) := by
 have bx := ab_half hx
 have by_ := ab_half hy
 have hD : 0 < ab y := by have := ab_zero (x := y); omega
 have hq0 : 0 ≤ ab x / ab y := Int.ediv_nonneg bx.1 (by omega)
 have hq1 : ab x / ab y ≤ ab x := Int.ediv_le_self _ bx.1
 have hr0 := Int.emod_nonneg (ab x) (Int.ne_of_gt hD)
 have hr1 := Int.emod_lt_of_pos (ab x) hD
 have neg_ab : ∀ P : Int, 0 ≤ P → ab (-P) = P := fun P h => by unfold ab; split <;> omega
 unfold jU.f
 refine Ev.bind (divide_ev (ab x) (ab y) bx.1 (by omega) hD by_.2) ?_
 have hf := fl_signs1 (x := x) h0
 unfold dg at *
 by_cases g : (ng x != ng y) = true
 · rw [if_pos g] at hf
   simp only [if_pos g]
   refine Ev.bind (zero_ev hr0 (by omega)) ?_
   refine Ev.succ ?_
   simp only [jU.j0, if_pos g]
   by_cases z : ab x % ab y = 0
   · rw [if_pos z] at hf
     rw [decide_eq_true z, hf, neg_ab _ hq0]
     refine Ev.neg (by simp) ?_
     refine Ev.bind (zero_ev hq0 (by omega)) ?_
     have : (!decide (ab x / ab y = 0)) = ng (-(ab x / ab y)) := by
      by_cases w : ab x / ab y = 0
      · rw [w]; rfl
      · rw [decide_eq_false w, ng_true (by omega)]; rfl
     rw [this]; exact Ev.now _
   · rw [if_neg z] at hf
     rw [decide_eq_false z, hf, show -(ab x / ab y) - 1 = -(ab x / ab y + 1) by omega, neg_ab _ (by omega), ng_true (by omega)]
     refine Ev.pos (by simp) ?_
     rw [of_eq 1 (by unfold I64; omega)]
     refine Ev.bind0 rfl ?_
     refine Ev.bind (add_ev hq0 (by decide) (show ab x / ab y + ab 1 < _ by rw [ab_pos (a := 1) (by omega)]; omega)) ?_
     rw [ab_pos (a := 1) (by omega)]
     refine Ev.bind (zero_ev (by omega) (by omega)) ?_
     rw [decide_eq_false (by omega)]
     exact Ev.now _
 · rw [if_neg g] at hf
   simp only [if_neg g]
   refine Ev.succ ?_
   simp only [jU.j0, if_neg g]
   refine Ev.neg (by simp) ?_
   rw [hf, ng_false (by omega), ab_pos hq0]
   exact Ev.now _
theorem fl_half {x y : Int} (hx : Half x) (h0 : y ≠ 0) : Half (fl x y) := by
 have bx := ab_half hx
 have hD : 0 < ab y := by have := ab_zero (x := y); unfold ab at *; split at * <;> omega
 have hq0 : 0 ≤ ab x / ab y := Int.ediv_nonneg bx.1 (by omega)
 have hq1 : ab x / ab y ≤ ab x := Int.ediv_le_self _ bx.1
 rw [fl_signs1 h0]
 split
 · split
   · unfold Half; omega
   · rename_i z
     have e := Int.mul_ediv_add_emod (ab x) (ab y)
     have hr0 := Int.emod_nonneg (ab x) (Int.ne_of_gt hD)
     have hr1 := Int.emod_lt_of_pos (ab x) hD
     have h3 : ab x / ab y ≤ ab y * (ab x / ab y) := by
      have := Int.mul_le_mul_of_nonneg_right (show (1 : Int) ≤ ab y by omega) hq0
      omega
     unfold Half; omega
 · unfold Half; omega
theorem fl_word {a b : Int} (ha : I64 a) (h0 : b ≠ 0) : -18446744073709551615 ≤ fl a b ∧ fl a b ≤ 18446744073709551615 := by
 rcases fl_bd ha h0 with h | ⟨h1, h2⟩
 · exact i64_word h
 · subst h1; subst h2
   have : fl (-9223372036854775808) (-1) = 9223372036854775808 := by decide
   rw [this]; omega
theorem md_bd {a b : Int} (h0 : b ≠ 0) (hb : I64 b) : I64 (md a b) := by
 unfold I64 at *
 unfold md
 split
 · have g1 := Int.emod_nonneg (-a) (b := -b) (by omega)
   have g2 := Int.emod_lt_of_pos (-a) (b := -b) (by omega)
   omega
 · have g1 := Int.emod_nonneg a (b := b) (by omega)
   have g2 := Int.emod_lt_of_pos a (b := b) (by omega)
   omega
end Go.Proofs.YtimgphlfaninnaaGreat.Civ
namespace Go.Proofs.YtimgphlfaninnaaGreat.P
open Go.RowKit Go.Proofs.YtimgphlfaninnaaGreatW.PrintWords Go.Proofs.YtimgphlfaninnaaGreatW.PrintLast Go.Proofs.YtimgphlfaninnaaGreatW.PrintMore
set_option linter.unusedVariables false
set_option linter.unusedSimpArgs false
theorem woSixOf {l : List Int} (h : l.length = 6) : ∃ a b c d e f, l = [a, b, c, d, e, f] := by
 match l, h with
 | [a, b, c, d, e, f], _ => exact ⟨a, b, c, d, e, f, rfl⟩
theorem woSixV {l : List Value} (h : l.length = 6) : ∃ a b c d e f, l = [a, b, c, d, e, f] := by
 match l, h with
 | [a, b, c, d, e, f], _ => exact ⟨a, b, c, d, e, f, rfl⟩
open A in
theorem wdRead_some {c : Nat → Nat → AV} {l : List Int} (h : wdRead c = some l) : ∃ x0 x1 x2 x3 x4 x5, l = [x0, x1, x2, x3, x4, x5] ∧ c 0 0 = .int .u64 x0 ∧ c 1 0 = .int .u64 x1 ∧ c 2 0 = .int .u64 x2 ∧ c 3 0 = .int .u64 x3 ∧ c 4 0 = .int .u64 x4 ∧ c 5 0 = .int .u64 x5 := by
 unfold wdRead at h
 split at h
 · rename_i h0 h1 h2 h3 h4 h5
   simp at h; subst h
   exact ⟨_, _, _, _, _, _, rfl, h0, h1, h2, h3, h4, h5⟩
 · cases h
open A in
theorem woCsl {w : World} {c : Nat → Nat → AV} {V : Value} {l : List Int} (h : RV noNames w (.csl 1 6 c) V) (hc : wdRead c = some l) : ∃ A cap, V = .slice A l.length cap ∧ l.length ≤ cap ∧ Kd.C (Kd.int .u64) w A l.length l := by
 obtain ⟨x0, x1, x2, x3, x4, x5, rfl, e0, e1, e2, e3, e4, e5⟩ := wdRead_some hc
 cases h with
 | csl s len cap c U hb hl hcell hr =>
 rename_i b o
 refine ⟨_, cap, rfl, hl, rfl, by simp, fun _ => ⟨_, rfl, ?_⟩⟩
 have key : ∀ j x, j < 6 → c j 0 = .int .u64 x → w.cell? ⟨b, o + (j * 1 + 0), none⟩ = some (.int .u64 x) := by
  intro j x hj e
  have h1 := hcell j 0 hj (by decide)
  have h2 := hr j 0 hj (by decide)
  rw [e] at h2
  rw [h1, kL.1 h2]
 intro j p hj
 refine ⟨[.int .u64 p], rfl, rfl, ?_⟩
 intro i u hu
 have hi : i = 0 ∧ u = .int .u64 p := by
  cases i with
  | zero => simpa using hu.symm
  | succ i => simp at hu
 obtain ⟨rfl, rfl⟩ := hi
 match j, hj with
 | 0, hj => simp at hj; subst hj; exact key 0 _ (by decide) e0
 | 1, hj => simp at hj; subst hj; exact key 1 _ (by decide) e1
 | 2, hj => simp at hj; subst hj; exact key 2 _ (by decide) e2
 | 3, hj => simp at hj; subst hj; exact key 3 _ (by decide) e3
 | 4, hj => simp at hj; subst hj; exact key 4 _ (by decide) e4
 | 5, hj => simp at hj; subst hj; exact key 5 _ (by decide) e5
 | j + 6, hj => simp at hj
open A in
theorem woNu {w w' : World} {ok : Nat → Prop} {v : Value} {l : List Int} (hl : l.length = 6) (h : Kd.R (Kd.int .u64) 155 w' w.heap.size ok v l) (hs : ∀ g, w'.heap[g]? = none ∨ g < w'.heap.size) :
 RV noNames w' (wdRow l) v ∧ ∀ n, Fr w.heap.size n (wdRow l) v := by
 obtain ⟨_, inner, ho, hr⟩ := h
 obtain ⟨a, b, c, d, e, f, rfl⟩ := woSixOf hl
 obtain ⟨hi, ⟨rfl, h0⟩ | ⟨g, cap, cur, rfl, hg, hh, hle, hcap, hsz, htk⟩⟩ := ho
 · simp at h0
 obtain ⟨v0, v1, v2, v3, v4, v5, rfl⟩ := woSixV (l := inner) hi
 have q : ∀ j p, ([a, b, c, d, e, f] : List Int)[j]? = some p → (([v0, v1, v2, v3, v4, v5] : List Value).drop (j * 1)).take 1 = [.int .u64 p] := fun j p hj => hr.2 j p hj
 have q0 : v0 = .int .u64 a := by simpa using q 0 a rfl
 have q1 : v1 = .int .u64 b := by simpa using q 1 b rfl
 have q2 : v2 = .int .u64 c := by simpa using q 2 c rfl
 have q3 : v3 = .int .u64 d := by simpa using q 3 d rfl
 have q4 : v4 = .int .u64 e := by simpa using q 4 e rfl
 have q5 : v5 = .int .u64 f := by simpa using q 5 f rfl
 subst q0 q1 q2 q3 q4 q5
 have hlt : g < w'.heap.size := by
  rcases hs g with hq | hq
  · rw [hq] at hh; cases hh
  · exact hq
 refine ⟨?_, fun n => ?_⟩
 · refine RV.nu 155 1 6 (L := cur.toList) hlt hcap hle (by simpa using hh) (by simpa [show (Kd.int .u64).sz = 1 from rfl] using hsz) rfl ?_
   have : cur.toList.take 6 = [.int .u64 a, .int .u64 b, .int .u64 c, .int .u64 d, .int .u64 e, .int .u64 f] := htk
   show RL noNames w' [.int .u64 a, .int .u64 b, .int .u64 c, .int .u64 d, .int .u64 e, .int .u64 f] (cur.toList.take 6)
   rw [this]
   exact .cons (.int _ _) (.cons (.int _ _) (.cons (.int _ _) (.cons (.int _ _) (.cons (.int _ _) (.cons (.int _ _) .nil)))))
 · cases n <;> exact hg
theorem woHeapOr (w : World) (g : Nat) : w.heap[g]? = none ∨ g < w.heap.size := by
 rcases Nat.lt_or_ge g w.heap.size with h | h
 · exact .inr h
 · exact .inl (by simp [h])
open A in
theorem woGives {g : FuncId} {fn : Func} (hf : Tryz.prog.funcs[g]? = some fn) (hb : fn.body.isSome = true) (hn : (fn.name == "runtime.NumGoroutine") = false) {A : List Value} {w : World} {n : Bool} {l : List Int} (hl : l.length = 6)
 (h : Calls Tryz.prog g A.toArray w fun e w' => ∃ v1_ : Value, e = .returned (.agg #[.bool n, v1_]) ∧ Kd.R (Kd.int .u64) 155 w' w.heap.size (fun _ => True) v1_ l ∧ Below w.heap.size w w') :
 Gives Tryz.prog g A.toArray w fun V w' => (RV noNames w' (.agg [.bool n, wdRow l]) V ∧ Below w.heap.size w w') ∧ Fr w.heap.size 4 (.agg [.bool n, wdRow l]) V := by
 refine .inl ⟨callFunc_enter hf hb hn _ _, h.mono fun e w' he => ?_⟩
 obtain ⟨v1, e1, hR, hB⟩ := he
 have hq := woNu hl hR (woHeapOr w')
 refine ⟨_, e1, ⟨.agg (.cons (.bool _) (.cons hq.1 .nil)), hB⟩, ?_⟩
 show ∀ (i : Nat) (v : AV) (V : Value), [AV.bool n, wdRow l][i]? = some v → #[Value.bool n, v1][i]? = some V → Fr w.heap.size 3 v V
 intro i v V hv hV
 match i with
 | 0 => simp at hv hV; subst hv hV; exact Fr.flat 3 rfl
 | 1 => simp at hv hV; subst hv hV; exact hq.2 3
 | i + 2 => simp at hv
theorem wd_digval {l : List Int} (h : wdOk l = true) : wdDig (wdVal l) = l := by
 obtain ⟨x0, x1, x2, x3, x4, x5, rfl, _⟩ := wd_six h
 unfold wdDig wdVal
 simp only [List.cons.injEq, and_true]
 refine ⟨by omega, by omega, by omega, by omega, by omega, by omega⟩
theorem wd_back {s : Bool} {l : List Int} (h : wdOk l = true) (hz : wdNz s l = true) : decide (wdMean s l < 0) = s ∧ wdDig (wdAb (wdMean s l)) = l := by
 have p := wdVal_pos h
 have e := wd_digval h
 unfold wdNz at hz
 unfold wdMean wdAb
 generalize wdVal l = v at *
 cases s
 · simp only [Bool.false_eq_true, if_false]
   rw [if_neg (by omega)]
   exact ⟨decide_eq_false (by omega), e⟩
 · simp at hz
   simp only [if_true]
   rw [if_pos (by omega), Int.neg_neg]
   exact ⟨decide_eq_true (by omega), e⟩
open A in
theorem wdOver_ok : COk Tryz.prog 110 wdOver := by
 intro args p v hc hp w A hA
 unfold wdOver wd2W at hc
 split at hc
 case h_2 => cases hc
 split at hc
 case isFalse => cases hc
 rename_i s _ _ _ t _ _ _ hs
 obtain ⟨rfl, rfl, rfl, rfl⟩ := hs
 split at hc
 case h_2 => cases hc
 rename_i l m hl0 hl1
 simp only [kG, kK, kM, kH] at hA
 obtain ⟨_, _, rfl, ⟨_, rfl, _, _, rfl, rfl, V0, _, rfl, hV0, rfl⟩, _, _, rfl, ⟨_, rfl, _, _, rfl, rfl, V1, _, rfl, hV1, rfl⟩, rfl⟩ := hA
 simp only [Option.some.injEq, Prod.mk.injEq] at hc
 obtain ⟨rfl, rfl⟩ := hc
 obtain ⟨A0, c0, rfl, q0, C0⟩ := woCsl hV0 hl0
 obtain ⟨A1, c1, rfl, q1, C1⟩ := woCsl hV1 hl1
 unfold wdOverC wdPlusC at hp
 obtain ⟨hp, hq⟩ := wd_and hp
 obtain ⟨hq, hz⟩ := wd_and hq
 obtain ⟨hx, hy⟩ := wd_and hq
 obtain ⟨ho, hn⟩ := wd_and hp
 obtain ⟨o0, o1⟩ := wd_and ho
 obtain ⟨n0, n1⟩ := wd_and hn
 obtain ⟨s0, d0⟩ := wd_back o0 n0
 obtain ⟨s1, d1⟩ := wd_back o1 n1
 obtain ⟨k, hk⟩ := Civ.over_ev (x := wdMean s l) (y := wdMean t m) (by unfold Civ.Half; exact of_decide_eq_true hx) (by unfold Civ.Half; exact of_decide_eq_true hy) (by simpa using hz)
 have hk := hk k (Nat.le_refl _)
 have hk : jU.f k (decide (wdMean s l < 0)) (wdDig (wdAb (wdMean s l))) (decide (wdMean t m < 0)) (wdDig (wdAb (wdMean t m))) = some (decide (wdFl (wdMean s l) (wdMean t m) < 0), wdDig (wdAb (wdFl (wdMean s l) (wdMean t m)))) := hk
 rw [s0, s1, d0, d1] at hk
 exact woGives (A := [.agg #[.bool s, .slice A0 l.length c0], .agg #[.bool t, .slice A1 m.length c1]]) Tryz.func110 (by kernel_rfl) (by kernel_rfl) (by rfl) (jU.calls k s A0 c0 l t A1 c1 m _ _ w C0 q0 C1 q1 hk)
open A in
theorem wdU_ok : TabOk Tryz.prog wdU := kP wdOf_ok (kP wdPlus_ok (kP wdZero_ok (kP wdTimes_ok (kP wdOver_ok (kP wdSmall_ok jV)))))
open A in
theorem wd_calls2 {g : Nat} {a0 a1 r1 r2 : Int} {w : World} (hq : wdV wdU g [.int .i64 a0, .int .i64 a1] fun u => u = .tup [.int .i64 r1, .int .i64 r2]) :
 Calls Tryz.prog g #[.int .i64 a0, .int .i64 a1] w fun e w' => e = .returned (.tuple #[.int .i64 r1, .int .i64 r2]) ∧ Below w.heap.size w w' := by
 unfold wdV at hq
 have hA : RL noNames w [AV.int .i64 a0, AV.int .i64 a1] [.int .i64 a0, .int .i64 a1] := .cons (.int _ _) (.cons (.int _ _) .nil)
 have hV : ∀ ρ V', RV ρ w (AV.tup [.int .i64 r1, .int .i64 r2]) V' → V' = .tuple #[.int .i64 r1, .int .i64 r2] := fun ρ V' hV => by simpa [kG, kK, kL, bU] using hV
 refine bZ (n := 10) (g := g) wdU_ok ?_ hA hV
 with_reducible exact hq
def Wd (v : Int) : Prop := -6277101735386680763835789423207666416102355444464034512896 < v ∧ v < 6277101735386680763835789423207666416102355444464034512896
theorem wd_in {a : Int} (h : wdIn a = true) : -9223372036854775808 ≤ a ∧ a ≤ 9223372036854775807 := of_decide_eq_true h
theorem wd_w {a : Int} (h : wdIn a = true) : Wd a := by have := wd_in h; unfold Wd; omega
theorem wd_mean {a : Int} (h : Wd a) : wdMean (decide (a < 0)) (wdDig (wdAb a)) = a := (wd_ab h).2.1
theorem wd_plus {a b : Int} (ha : Wd a) (hb : Wd b) : wdPlusC (decide (a < 0)) (wdDig (wdAb a)) (decide (b < 0)) (wdDig (wdAb b)) = true := by
 unfold wdPlusC
 rw [wd_okd, wd_okd, (wd_ab ha).2.2, (wd_ab hb).2.2]; rfl
theorem wd_over {a b : Int} (ha : wdHalf a = true) (hb : wdHalf b = true) (h0 : b ≠ 0) : wdOverC (decide (a < 0)) (wdDig (wdAb a)) (decide (b < 0)) (wdDig (wdAb b)) = true := by
 have h1 := of_decide_eq_true ha
 have h2 := of_decide_eq_true hb
 unfold wdOverC
 rw [wd_plus (by unfold Wd; omega) (by unfold Wd; omega), wd_mean (by unfold Wd; omega), wd_mean (by unfold Wd; omega), ha, hb, decide_eq_false h0]; rfl
theorem wd_times {a b : Int} (ha : -18446744073709551616 < a ∧ a < 18446744073709551616) (hb : -18446744073709551616 < b ∧ b < 18446744073709551616) : wdTimesC (decide (a < 0)) (wdDig (wdAb a)) (decide (b < 0)) (wdDig (wdAb b)) = true := by
 unfold wdTimesC
 rw [wd_okd, wd_okd, (wd_ab (v := a) (by omega)).1, (wd_ab (v := b) (by omega)).1, decide_eq_true (show wdAb a < 18446744073709551616 by unfold wdAb; split <;> omega), decide_eq_true (show wdAb b < 18446744073709551616 by unfold wdAb; split <;> omega)]; rfl
open A in
theorem wdS_ok {v : Int} {K : AV → Prop} (h : Wd v) (hK : K (.tup [.int .i64 (wdOut v).1, .int .i64 (wdOut v).2])) : wdS (decide (v < 0)) (wdDig (wdAb v)) K := by
 unfold wdS
 rw [wd_mean h]
 refine wd_brc (wd_okd _) ?_
 rintro _ rfl _ rfl
 exact hK
open A in
theorem wdM_ok {v : Int} {C : Bool → Prop} (h : Wd v) (hC : C (decide (-v < 0))) : wdM (decide (v < 0)) (wdDig (wdAb v)) C := by
 unfold wdM
 refine brc_intro (fun g => wd_brc (wd_okd _) ?_) fun g => ?_
 · rintro _ rfl
   rw [(wd_ab h).1]
   have g : ¬ v < 0 := by simpa using g
   have e : (!decide (wdAb v = 0)) = decide (-v < 0) := by
    unfold wdAb; rw [if_neg g]
    by_cases z : v = 0
    · subst z; rfl
    · rw [decide_eq_false z, decide_eq_true (by omega)]; rfl
   rw [e]; exact hC
 · have g : v < 0 := by simpa using g
   rw [decide_eq_false (by omega)] at hC; exact hC
theorem wd_neg {v : Int} : wdAb v = wdAb (-v) := by unfold wdAb; split <;> split <;> omega
def wdRes (a b : Int) (r : Int × Int) : Option (Int × Int) := if wdIn a = true ∧ wdIn b = true then some r else none
open A in
theorem wdFAdd_calls {a b r1 r2 : Int} {w : World} (h : wdRes a b (wdOut (a + b)) = some (r1, r2)) : Calls Tryz.prog 90 #[.int .i64 a, .int .i64 b] w fun e w' => e = .returned (.tuple #[.int .i64 r1, .int .i64 r2]) ∧ Below w.heap.size w w' := by
 unfold wdRes at h
 split at h
 case isFalse => cases h
 rename_i hh
 obtain ⟨ha, hb⟩ := hh
 have := wd_in ha
 have := wd_in hb
 have e := Option.some.inj h
 refine wd_calls2 ?_
 rw [wdFAdd_vc]
 refine wdQ_ok ha (wdQ_ok hb (wdQ_ok (wd_plus (wd_w ha) (wd_w hb)) ?_))
 rw [wd_mean (wd_w ha), wd_mean (wd_w hb)]
 exact wdS_ok (by unfold Wd; omega) (by rw [e])
open A in
theorem wdFSub_calls {a b r1 r2 : Int} {w : World} (h : wdRes a b (wdOut (a - b)) = some (r1, r2)) : Calls Tryz.prog 54 #[.int .i64 a, .int .i64 b] w fun e w' => e = .returned (.tuple #[.int .i64 r1, .int .i64 r2]) ∧ Below w.heap.size w w' := by
 unfold wdRes at h
 split at h
 case isFalse => cases h
 rename_i hh
 obtain ⟨ha, hb⟩ := hh
 have := wd_in ha
 have := wd_in hb
 have e := Option.some.inj h
 refine wd_calls2 ?_
 rw [wdFSub_vc]
 refine wdQ_ok ha (wdQ_ok hb (wdM_ok (wd_w hb) ?_))
 rw [wd_neg (v := b)]
 refine wdQ_ok (wd_plus (wd_w ha) (by unfold Wd; omega)) ?_
 rw [wd_mean (wd_w ha), wd_mean (by unfold Wd; omega), show a + -b = a - b by omega]
 exact wdS_ok (by unfold Wd; omega) (by rw [e])
theorem wd_prod {a b : Int} (ha : -18446744073709551616 < a ∧ a < 18446744073709551616) (hb : -18446744073709551616 < b ∧ b < 18446744073709551616) : Wd (a * b) := by
 have h : (a * b).natAbs ≤ 18446744073709551615 * 18446744073709551615 := by rw [Int.natAbs_mul]; exact Nat.mul_le_mul (by omega) (by omega)
 unfold Wd; omega
theorem wd_half {a : Int} (h : wdIn a = true) : wdHalf a = true := by have := wd_in h; exact decide_eq_true (by omega)
open A in
theorem wdFDiv_calls {a b r1 r2 : Int} {w : World} (h : (if b = 0 then some (0, 11) else wdRes a b (wdOut (wdFl a b))) = some (r1, r2)) : Calls Tryz.prog 70 #[.int .i64 a, .int .i64 b] w fun e w' => e = .returned (.tuple #[.int .i64 r1, .int .i64 r2]) ∧ Below w.heap.size w w' := by
 refine wd_calls2 ?_
 rw [wdFDiv_vc]
 split at h
 · rename_i h0
   refine wd_brc (by rw [h0]; rfl) ?_
   have e := Option.some.inj h
   simp only [Prod.mk.injEq] at e
   obtain ⟨rfl, rfl⟩ := e
   rfl
 rename_i h0
 refine wd_brn (by simpa using h0) ?_
 unfold wdRes at h
 split at h
 case isFalse => cases h
 rename_i hh
 obtain ⟨ha, hb⟩ := hh
 have e := Option.some.inj h
 refine wdQ_ok ha (wdQ_ok hb (wdQ_ok (wd_over (wd_half ha) (wd_half hb) h0) ?_))
 rw [wd_mean (wd_w ha), wd_mean (wd_w hb)]
 have : Civ.Half (wdFl a b) := Civ.fl_half (by have := wd_in ha; unfold Civ.Half; omega) h0
 exact wdS_ok (by unfold Civ.Half at this; unfold Wd; omega) (by rw [e])
def wdMd (a b : Int) : Int := if b < 0 then -((-a) % (-b)) else a % b
open A in
theorem wdFMod_calls {a b r1 r2 : Int} {w : World} (h : (if b = 0 then some (0, 11) else wdRes a b (wdMd a b, 0)) = some (r1, r2)) : Calls Tryz.prog 71 #[.int .i64 a, .int .i64 b] w fun e w' => e = .returned (.tuple #[.int .i64 r1, .int .i64 r2]) ∧ Below w.heap.size w w' := by
 refine wd_calls2 ?_
 rw [wdFMod_vc]
 split at h
 · rename_i h0
   refine wd_brc (by rw [h0]; rfl) ?_
   have e := Option.some.inj h
   simp only [Prod.mk.injEq] at e
   obtain ⟨rfl, rfl⟩ := e
   rfl
 rename_i h0
 refine wd_brn (by simpa using h0) ?_
 unfold wdRes at h
 split at h
 case isFalse => cases h
 rename_i hh
 obtain ⟨ha, hb⟩ := hh
 have i0 := wd_in ha
 have i1 := wd_in hb
 have e := Option.some.inj h
 have hf : -18446744073709551615 ≤ wdFl a b ∧ wdFl a b ≤ 18446744073709551615 := Civ.fl_word (wd_in ha) h0
 have hfm : a = b * wdFl a b + wdMd a b := Civ.fl_md a b
 have hmd : -9223372036854775808 ≤ wdMd a b ∧ wdMd a b ≤ 9223372036854775807 := Civ.md_bd (a := a) h0 (wd_in hb)
 have wf : Wd (wdFl a b) := by unfold Wd; omega
 have hp : Wd (b * wdFl a b) := wd_prod (by omega) (by omega)
 refine wdQ_ok ha (wdQ_ok hb (wdQ_ok ha (wdQ_ok hb (wdQ_ok (wd_over (wd_half ha) (wd_half hb) h0) ?_))))
 rw [wd_mean (wd_w ha), wd_mean (wd_w hb)]
 refine wdQ_ok (wd_times (by omega) (by omega)) ?_
 rw [wd_mean wf]
 refine wdM_ok hp ?_
 rw [wd_neg (v := b * wdFl a b)]
 have hn : Wd (-(b * wdFl a b)) := by unfold Wd at *; omega
 refine wdQ_ok (wd_plus (wd_w ha) hn) ?_
 rw [wd_mean hn, show a + -(b * wdFl a b) = wdMd a b by omega]
 exact wdS_ok (by unfold Wd; omega) (by rw [wdOut_in hmd, e])
end Go.Proofs.YtimgphlfaninnaaGreat.P
namespace Go.Proofs.YtimgphlfaninnaaGreat.P
open Go.RowKit Go.Proofs.YtimgphlfaninnaaGreatW.PrintWords Go.Proofs.YtimgphlfaninnaaGreatW.PrintLast Go.Proofs.YtimgphlfaninnaaGreatW.PrintMore
open Go.Proofs.YtimgphlfaninnaaGreat.A
 attribute [local go_sem] jQ jP zB zC jE jD jO jN
set_option linter.unusedVariables false
set_option linter.unusedSimpArgs false
def jW.f (k : Nat) (a0 : Int) : Option (Bool) := (zW.f k).bind fun t329 => (if a0 ≥ t329 then ((zZ.f k).bind fun t330 => (some (decide (a0 ≤ t330)))) else (some false))
theorem jW.mono : ∀ a0 k, LeO (jW.f k a0) (jW.f (k + 1) a0) := by
 intro a0 k
 unfold jW.f
 repeat' first
  | (with_reducible exact zW.mono _)
  | (with_reducible exact zZ.mono _)
  | (with_reducible exact LeO.refl _)
  | (with_reducible exact LeO.none _)
  | (with_reducible refine LeO.ite ?_ ?_)
  | (with_reducible refine LeO.bind ?_ (fun _ => ?_))
  | exact zW.mono _
  | exact zZ.mono _
  | exact LeO.none _
  | refine LeO.ite ?_ ?_
  | refine LeO.bind ?_ (fun _ => ?_)
set_option maxHeartbeats 8000000 in
set_option maxRecDepth 100000 in
theorem jW.calls (k : Nat) (a0 : Int) (r : Bool) (w : World) (h : jW.f k a0 = some r) :
 Calls Tryz.prog 139 #[.int .i64 a0] w fun e w' => e = .returned (.bool r) ∧ Drawn0 w w' := by
 have H : ((zW.f k).bind fun t329 => (if a0 ≥ t329 then ((zZ.f k).bind fun t330 => (some (decide (a0 ≤ t330)))) else (some false))) = some r := h
 clear h
 replace H := Option.bind_eq_some_iff.mp H
 obtain ⟨t329, A20, H⟩ := H
 replace H : (if a0 ≥ t329 then ((zZ.f k).bind fun t330 => (some (decide (a0 ≤ t330)))) else (some false)) = some r := H
 have A2 := Aside0.mk A20
 clear A20
 by_cases c3 : a0 ≥ t329
 · rw [if_pos c3] at H
   have c3b0 : decide (t329 ≤ a0) = true := decide_eq_true c3
   clear c3
   replace H := Option.bind_eq_some_iff.mp H
   obtain ⟨t330, A40, H⟩ := H
   replace H : (some (decide (a0 ≤ t330))) = some r := H
   have A4 := Aside0.mk A40
   clear A40
   obtain rfl := Option.some.inj H
   go_enter Tryz.func139, Tryz.ntmps139
   go_wp2_with (first | ((with_reducible refine kW (f := 108) rfl ?_); refine jI (some 4) rfl rfl Tryz.func108 (by kernel_rfl) rfl #[] rfl (by (try simp only [List.map_toArray, List.map_cons, List.map_nil]); first | done | rfl | (simp only [List.length_drop, List.length_take]; rfl)) ?_; (with_reducible refine (zW.calls k  t329 _ A2.out).mono ?_); rintro e w' ⟨rfl, ⟨nd, rfl⟩⟩; refine ⟨_, rfl, ?_⟩) | (go_at_call 166; (with_reducible refine (zZ.calls k  t330 _ A4.out).mono ?_); rintro e w' ⟨rfl, ⟨nd, rfl⟩⟩))
   go_ret
   exact ⟨by first | rfl | (simp; done) | (simp [*]; done), by repeat (first | exact Drawn0.refl _ | apply Drawn0.step)⟩
 · rw [if_neg c3] at H
   have c3b0 : decide (t329 ≤ a0) = false := decide_eq_false c3
   clear c3
   obtain rfl := Option.some.inj H
   go_enter Tryz.func139, Tryz.ntmps139
   go_wp2_with (first | ((with_reducible refine kW (f := 108) rfl ?_); refine jI (some 4) rfl rfl Tryz.func108 (by kernel_rfl) rfl #[] rfl (by (try simp only [List.map_toArray, List.map_cons, List.map_nil]); first | done | rfl | (simp only [List.length_drop, List.length_take]; rfl)) ?_; (with_reducible refine (zW.calls k  t329 _ A2.out).mono ?_); rintro e w' ⟨rfl, ⟨nd, rfl⟩⟩; refine ⟨_, rfl, ?_⟩))
   go_ret
   exact ⟨by first | rfl | (simp; done) | (simp [*]; done), by repeat (first | exact Drawn0.refl _ | apply Drawn0.step)⟩
mutual
def kB.j1 : Nat → Int → Int → Option (Int × Int × Int × Int)
 | 0, _, _ => none
 | k + 1, x6, x7 => kB.l1 k x6 x7 1
def kB.l1 : Nat → Int → Int → Int → Option (Int × Int × Int × Int)
 | 0, _, _, _ => none
 | k + 1, x6, x7, x9 => (kC.f k x6 x9).bind fun t335 => (if x7 ≥ t335 then ((kC.f k x6 x9).bind fun t336 => (kB.l1 k x6 (wrap64 (x7 - t336)) (wrap64 (x9 + 1)))) else (some (x6, x9, wrap64 (x7 + 1), 0)))
def kB.l0 : Nat → Int → Int → Option (Int × Int × Int × Int)
 | 0, _, _ => none
 | k + 1, x6, x7 => (zE.f x6).bind fun t334 => (if t334 = true then (if x7 < 366 then (kB.j1 k x6 x7) else (kB.l0 k (wrap64 (x6 + 1)) (wrap64 (x7 - 366)))) else (if x7 < 365 then (kB.j1 k x6 x7) else (kB.l0 k (wrap64 (x6 + 1)) (wrap64 (x7 - 365)))))
end
def kB.f (k : Nat) (a0 : Int) : Option (Int × Int × Int × Int) := (jW.f k a0).bind fun t331 => (if t331 = true then ((zV.f a0 146097).bind fun t332 => ((bT.f a0 146097).bind fun t333 => (kB.l0 k (wrap64 (2000 + (wrap64 (t332 * 400)))) t333))) else (some (0, 0, 0, 10)))
theorem kB.mono_l : ∀ k, (∀ y0 y1, LeO (kB.j1 k y0 y1) (kB.j1 (k + 1) y0 y1)) ∧ (∀ y0 y1 y2, LeO (kB.l1 k y0 y1 y2) (kB.l1 (k + 1) y0 y1 y2)) ∧ (∀ y0 y1, LeO (kB.l0 k y0 y1) (kB.l0 (k + 1) y0 y1))
 | 0 => ⟨fun _ _ r h => by simp [kB.j1] at h, fun _ _ _ r h => by simp [kB.l1] at h, fun _ _ r h => by simp [kB.l0] at h⟩
 | k + 1 => by
  obtain ⟨ih0, ih1, ih2⟩ := kB.mono_l k
  refine ⟨?_, ?_, ?_⟩
  · intro y0 y1
    unfold kB.j1
    repeat' first
    | (with_reducible exact ih0 _ _)
    | (with_reducible exact ih1 _ _ _)
    | (with_reducible exact ih2 _ _)
    | (with_reducible exact jW.mono _ _)
    | (with_reducible exact kC.mono _ _ _)
    | (with_reducible exact LeO.refl _)
    | (with_reducible exact LeO.none _)
    | (with_reducible refine LeO.ite ?_ ?_)
    | (with_reducible refine LeO.bind ?_ (fun _ => ?_))
    | exact ih0 _ _
    | exact ih1 _ _ _
    | exact ih2 _ _
    | exact jW.mono _ _
    | exact kC.mono _ _ _
    | exact LeO.none _
    | refine LeO.ite ?_ ?_
    | refine LeO.bind ?_ (fun _ => ?_)
  · intro y0 y1 y2
    unfold kB.l1
    repeat' first
    | (with_reducible exact ih0 _ _)
    | (with_reducible exact ih1 _ _ _)
    | (with_reducible exact ih2 _ _)
    | (with_reducible exact jW.mono _ _)
    | (with_reducible exact kC.mono _ _ _)
    | (with_reducible exact LeO.refl _)
    | (with_reducible exact LeO.none _)
    | (with_reducible refine LeO.ite ?_ ?_)
    | (with_reducible refine LeO.bind ?_ (fun _ => ?_))
    | exact ih0 _ _
    | exact ih1 _ _ _
    | exact ih2 _ _
    | exact jW.mono _ _
    | exact kC.mono _ _ _
    | exact LeO.none _
    | refine LeO.ite ?_ ?_
    | refine LeO.bind ?_ (fun _ => ?_)
  · intro y0 y1
    unfold kB.l0
    repeat' first
    | (with_reducible exact ih0 _ _)
    | (with_reducible exact ih1 _ _ _)
    | (with_reducible exact ih2 _ _)
    | (with_reducible exact jW.mono _ _)
    | (with_reducible exact kC.mono _ _ _)
    | (with_reducible exact LeO.refl _)
    | (with_reducible exact LeO.none _)
    | (with_reducible refine LeO.ite ?_ ?_)
    | (with_reducible refine LeO.bind ?_ (fun _ => ?_))
    | exact ih0 _ _
    | exact ih1 _ _ _
    | exact ih2 _ _
    | exact jW.mono _ _
    | exact kC.mono _ _ _
    | exact LeO.none _
    | refine LeO.ite ?_ ?_
    | refine LeO.bind ?_ (fun _ => ?_)
theorem kB.mono : ∀ a0 k, LeO (kB.f k a0) (kB.f (k + 1) a0) := by
 intro a0 k
 obtain ⟨ih0, ih1, ih2⟩ := kB.mono_l k
 unfold kB.f
 repeat' first
  | (with_reducible exact ih0 _ _)
  | (with_reducible exact ih1 _ _ _)
  | (with_reducible exact ih2 _ _)
  | (with_reducible exact jW.mono _ _)
  | (with_reducible exact kC.mono _ _ _)
  | (with_reducible exact LeO.refl _)
  | (with_reducible exact LeO.none _)
  | (with_reducible refine LeO.ite ?_ ?_)
  | (with_reducible refine LeO.bind ?_ (fun _ => ?_))
  | exact ih0 _ _
  | exact ih1 _ _ _
  | exact ih2 _ _
  | exact jW.mono _ _
  | exact kC.mono _ _ _
  | exact LeO.none _
  | refine LeO.ite ?_ ?_
  | refine LeO.bind ?_ (fun _ => ?_)
set_option maxHeartbeats 8000000 in
set_option maxRecDepth 100000 in
theorem kB.calls (k : Nat) (a0 : Int) (r1 : Int) (r2 : Int) (r3 : Int) (r4 : Int) (w : World) (h : kB.f k a0 = some (r1, r2, r3, r4)) :
 Calls Tryz.prog 107 #[.int .i64 a0] w fun e w' => e = .returned (.tuple #[.int .i64 r1, .int .i64 r2, .int .i64 r3, .int .i64 r4]) ∧ Drawn0 w w' := by
 have H : ((jW.f k a0).bind fun t331 => (if t331 = true then ((zV.f a0 146097).bind fun t332 => ((bT.f a0 146097).bind fun t333 => (kB.l0 k (wrap64 (2000 + (wrap64 (t332 * 400)))) t333))) else (some (0, 0, 0, 10)))) = some (r1, r2, r3, r4) := h
 clear h
 replace H := Option.bind_eq_some_iff.mp H
 obtain ⟨t331, A20, H⟩ := H
 replace H : (if t331 = true then ((zV.f a0 146097).bind fun t332 => ((bT.f a0 146097).bind fun t333 => (kB.l0 k (wrap64 (2000 + (wrap64 (t332 * 400)))) t333))) else (some (0, 0, 0, 10))) = some (r1, r2, r3, r4) := H
 have A2 := Aside0.mk A20
 clear A20
 by_cases c3 : t331 = true
 · subst c3
   have H1 : ((zV.f a0 146097).bind fun t332 => ((bT.f a0 146097).bind fun t333 => (kB.l0 k (wrap64 (2000 + (wrap64 (t332 * 400)))) t333))) = some (r1, r2, r3, r4) := by rw [if_pos rfl] at H; exact H
   clear H
   have H := H1
   clear H1
   replace H := Option.bind_eq_some_iff.mp H
   obtain ⟨t332, A40, H⟩ := H
   replace H : ((bT.f a0 146097).bind fun t333 => (kB.l0 k (wrap64 (2000 + (wrap64 (t332 * 400)))) t333)) = some (r1, r2, r3, r4) := H
   have A4 := Aside0.mk A40
   clear A40
   replace H := Option.bind_eq_some_iff.mp H
   obtain ⟨t333, A50, H⟩ := H
   replace H : (kB.l0 k (wrap64 (2000 + (wrap64 (t332 * 400)))) t333) = some (r1, r2, r3, r4) := H
   have A5 := Aside0.mk A50
   clear A50
   have HC6 := Aside0.mk H
   clear H
   go_enter Tryz.func107, Tryz.ntmps107
   go_upto_block 0 with (first | ((with_reducible refine kW (f := 139) rfl ?_); refine jI (some 11) rfl rfl Tryz.func139 (by kernel_rfl) rfl #[.int .i64 a0] rfl (by (try simp only [List.map_toArray, List.map_cons, List.map_nil]); first | done | rfl | (simp only [List.length_drop, List.length_take]; rfl)) ?_; (with_reducible refine (jW.calls k a0 true _ A2.out).mono ?_); rintro e w' ⟨rfl, ⟨nd, rfl⟩⟩; refine ⟨_, rfl, ?_⟩) | ((with_reducible refine kW (f := 140) rfl ?_); refine jI (some 14) rfl rfl Tryz.func140 (by kernel_rfl) rfl #[.int .i64 a0, .int .i64 146097] rfl (by (try simp only [List.map_toArray, List.map_cons, List.map_nil]); first | done | rfl | (simp only [List.length_drop, List.length_take]; rfl)) ?_; (with_reducible refine (zV.calls a0 146097 t332 _ A4.out).mono ?_); rintro e w' ⟨rfl, ⟨nd, rfl⟩⟩; refine ⟨_, rfl, ?_⟩) | ((with_reducible refine kW (f := 141) rfl ?_); refine jI (some 18) rfl rfl Tryz.func141 (by kernel_rfl) rfl #[.int .i64 a0, .int .i64 146097] rfl (by (try simp only [List.map_toArray, List.map_cons, List.map_nil]); first | done | rfl | (simp only [List.length_drop, List.length_take]; rfl)) ?_; (with_reducible refine (bT.calls a0 146097 t333 _ A5.out).mono ?_); rintro e w' ⟨rfl, ⟨nd, rfl⟩⟩; refine ⟨_, rfl, ?_⟩))
   (try simp only [Act.put, List.setIfInBounds_toArray, List.set_cons_zero, List.set_cons_succ])
   go_cut [6, 7] (fun v6 v7 wc => ∃ (kq : Nat) (x6_5 : Int) (x7_5 : Int), v6 = .int .i64 x6_5 ∧ v7 = .int .i64 x7_5 ∧ Aside0 (kB.j1 kq x6_5 x7_5 = some (r1, r2, r3, r4)) ∧ Aside0 (kq ≤ k) ∧ Drawn0 w wc)
   case first =>
    have H := HC6.out
    clear HC6
    have H' := Aside0.mk H
    clear H
    go_wp2
    go_loopg [6, 7] k (fun kq v6 v7 w' => ∃ (x6_1 : Int) (x7_1 : Int), v6 = .int .i64 x6_1 ∧ v7 = .int .i64 x7_1 ∧ Aside0 (kB.l0 kq x6_1 x7_1 = some (r1, r2, r3, r4)) ∧ Aside0 (kq ≤ k) ∧ Drawn0 w w')
    case atStart => exact ⟨(wrap64 (2000 + (wrap64 (t332 * 400)))), (t333), (by first | rfl | (simp; done) | (simp [*]; done)), (by first | rfl | (simp; done) | (simp [*]; done)), H', ⟨Nat.le_refl _⟩, by repeat (first | exact Drawn0.refl _ | apply Drawn0.step)⟩
    case round =>
     clear H'
     try clear c1
     try clear p2
     try clear c3
     try clear p6
     obtain ⟨x6_1, x7_1, rfl, rfl, HA, HK1, ⟨m1, rfl⟩⟩ := hrel
     cases gk with
     | zero => exact absurd HA.out (by simp [kB.l0])
     | succ k1 =>
      have H := HA.out
      clear HA
      simp only [kB.l0] at H
      replace H := Option.bind_eq_some_iff.mp H
      obtain ⟨t334, A70, H⟩ := H
      replace H : (if t334 = true then (if x7_1 < 366 then (kB.j1 k1 x6_1 x7_1) else (kB.l0 k1 (wrap64 (x6_1 + 1)) (wrap64 (x7_1 - 366)))) else (if x7_1 < 365 then (kB.j1 k1 x6_1 x7_1) else (kB.l0 k1 (wrap64 (x6_1 + 1)) (wrap64 (x7_1 - 365))))) = some (r1, r2, r3, r4) := H
      have A7 := Aside0.mk A70
      clear A70
      by_cases c8 : t334 = true
      · subst c8
        have H1 : (if x7_1 < 366 then (kB.j1 k1 x6_1 x7_1) else (kB.l0 k1 (wrap64 (x6_1 + 1)) (wrap64 (x7_1 - 366)))) = some (r1, r2, r3, r4) := by rw [if_pos rfl] at H; exact H
        clear H
        have H := H1
        clear H1
        by_cases c9 : x7_1 < 366
        · rw [if_pos c9] at H
          have c9b0 : decide (x7_1 < 366) = true := decide_eq_true c9
          clear c9
          (first | rw [c9b0] | (simp only [qJ, qL]; rw [c9b0]) | skip)
          have H' := Aside0.mk H
          clear H
          go_wp2_with (first | ((with_reducible refine kW (f := 142) rfl ?_); refine jI (some 20) rfl rfl Tryz.func142 (by kernel_rfl) rfl #[.int .i64 x6_1] rfl (by (try simp only [List.map_toArray, List.map_cons, List.map_nil]); first | done | rfl | (simp only [List.length_drop, List.length_take]; rfl)) ?_; (with_reducible refine (zE.calls x6_1 true _ A7.out).mono ?_); rintro e w' ⟨rfl, ⟨nd, rfl⟩⟩; refine ⟨_, rfl, ?_⟩))
          go_meet
          case rel => exact ⟨_, (x6_1), (x7_1), (by first | rfl | (simp; done) | (simp [*]; done)), (by first | rfl | (simp; done) | (simp [*]; done)), H', ⟨by have := HK1.out; first | omega | exact Nat.le_refl _⟩, by repeat (first | exact Drawn0.refl _ | apply Drawn0.step)⟩
        · rw [if_neg c9] at H
          have c9b0 : decide (x7_1 < 366) = false := decide_eq_false c9
          clear c9
          (first | rw [c9b0] | (simp only [qJ, qL]; rw [c9b0]) | skip)
          have H' := Aside0.mk H
          clear H
          go_wp2_with (first | ((with_reducible refine kW (f := 142) rfl ?_); refine jI (some 20) rfl rfl Tryz.func142 (by kernel_rfl) rfl #[.int .i64 x6_1] rfl (by (try simp only [List.map_toArray, List.map_cons, List.map_nil]); first | done | rfl | (simp only [List.length_drop, List.length_take]; rfl)) ?_; (with_reducible refine (zE.calls x6_1 true _ A7.out).mono ?_); rintro e w' ⟨rfl, ⟨nd, rfl⟩⟩; refine ⟨_, rfl, ?_⟩))
          go_roundg k1
          case measure => have := HK1.out; omega
          case rel => exact ⟨(wrap64 (x6_1 + 1)), (wrap64 (x7_1 - 366)), (by first | rfl | (simp; done) | (simp [*]; done)), (by first | rfl | (simp; done) | (simp [*]; done)), H', ⟨by have := HK1.out; omega⟩, by repeat (first | exact Drawn0.refl _ | apply Drawn0.step)⟩
      · replace c8 := Bool.eq_false_iff.mpr c8
        subst c8
        have H1 : (if x7_1 < 365 then (kB.j1 k1 x6_1 x7_1) else (kB.l0 k1 (wrap64 (x6_1 + 1)) (wrap64 (x7_1 - 365)))) = some (r1, r2, r3, r4) := by rw [if_neg (show ¬ (false = true) by decide)] at H; exact H
        clear H
        have H := H1
        clear H1
        by_cases c10 : x7_1 < 365
        · rw [if_pos c10] at H
          have c10b0 : decide (x7_1 < 365) = true := decide_eq_true c10
          clear c10
          have H' := Aside0.mk H
          clear H
          go_wp2_with (first | ((with_reducible refine kW (f := 142) rfl ?_); refine jI (some 20) rfl rfl Tryz.func142 (by kernel_rfl) rfl #[.int .i64 x6_1] rfl (by (try simp only [List.map_toArray, List.map_cons, List.map_nil]); first | done | rfl | (simp only [List.length_drop, List.length_take]; rfl)) ?_; (with_reducible refine (zE.calls x6_1 false _ A7.out).mono ?_); rintro e w' ⟨rfl, ⟨nd, rfl⟩⟩; refine ⟨_, rfl, ?_⟩))
          go_meet
          case rel => exact ⟨_, (x6_1), (x7_1), (by first | rfl | (simp; done) | (simp [*]; done)), (by first | rfl | (simp; done) | (simp [*]; done)), H', ⟨by have := HK1.out; first | omega | exact Nat.le_refl _⟩, by repeat (first | exact Drawn0.refl _ | apply Drawn0.step)⟩
        · rw [if_neg c10] at H
          have c10b0 : decide (x7_1 < 365) = false := decide_eq_false c10
          clear c10
          have H' := Aside0.mk H
          clear H
          go_wp2_with (first | ((with_reducible refine kW (f := 142) rfl ?_); refine jI (some 20) rfl rfl Tryz.func142 (by kernel_rfl) rfl #[.int .i64 x6_1] rfl (by (try simp only [List.map_toArray, List.map_cons, List.map_nil]); first | done | rfl | (simp only [List.length_drop, List.length_take]; rfl)) ?_; (with_reducible refine (zE.calls x6_1 false _ A7.out).mono ?_); rintro e w' ⟨rfl, ⟨nd, rfl⟩⟩; refine ⟨_, rfl, ?_⟩))
          go_roundg k1
          case measure => have := HK1.out; omega
          case rel => exact ⟨(wrap64 (x6_1 + 1)), (wrap64 (x7_1 - 365)), (by first | rfl | (simp; done) | (simp [*]; done)), (by first | rfl | (simp; done) | (simp [*]; done)), H', ⟨by have := HK1.out; omega⟩, by repeat (first | exact Drawn0.refl _ | apply Drawn0.step)⟩
   case rest =>
    clear HC6
    try clear c1
    try clear p2
    try clear c3
    try clear p6
    try clear c8
    try clear c9
    try clear c9b0
    try clear c10
    try clear c10b0
    try clear p2
    try clear p6
    obtain ⟨kq, x6_5, x7_5, rfl, rfl, HA, HJ5, ⟨mc5, rfl⟩⟩ := hcut
    cases kq with
    | zero => exact absurd HA.out (by simp [kB.j1])
    | succ kj5 =>
     have H := HA.out
     clear HA
     simp only [kB.j1] at H
     have H' := Aside0.mk H
     clear H
     go_wp2
     go_loopg [7, 9] kj5 (fun kq v7 v9 w' => ∃ (x7_2 : Int) (x9_2 : Int), v7 = .int .i64 x7_2 ∧ v9 = .int .i64 x9_2 ∧ Aside0 (kB.l1 kq x6_5 x7_2 x9_2 = some (r1, r2, r3, r4)) ∧ Aside0 (kq ≤ kj5) ∧ Drawn0 w w')
     case atStart => exact ⟨(x7_5), (1), (by first | rfl | (simp; done) | (simp [*]; done)), (by first | rfl | (simp; done) | (simp [*]; done)), H', ⟨Nat.le_refl _⟩, by repeat (first | exact Drawn0.refl _ | apply Drawn0.step)⟩
     case round =>
      clear H'
      try clear c1
      try clear p2
      try clear c3
      try clear c5
      try clear p6
      try clear c8
      try clear c9
      try clear c9b0
      try clear c10
      try clear c10b0
      try clear p2
      try clear p6
      obtain ⟨x7_2, x9_2, rfl, rfl, HA, HK2, ⟨m2, rfl⟩⟩ := hrel
      cases gk with
      | zero => exact absurd HA.out (by simp [kB.l1])
      | succ k2 =>
       have H := HA.out
       clear HA
       simp only [kB.l1] at H
       replace H := Option.bind_eq_some_iff.mp H
       obtain ⟨t335, A110, H⟩ := H
       replace H : (if x7_2 ≥ t335 then ((kC.f k2 x6_5 x9_2).bind fun t336 => (kB.l1 k2 x6_5 (wrap64 (x7_2 - t336)) (wrap64 (x9_2 + 1)))) else (some (x6_5, x9_2, wrap64 (x7_2 + 1), 0))) = some (r1, r2, r3, r4) := H
       have A11 := Aside0.mk A110
       clear A110
       by_cases c12 : x7_2 ≥ t335
       · rw [if_pos c12] at H
         have c12b0 : decide (t335 ≤ x7_2) = true := decide_eq_true c12
         clear c12
         replace H := Option.bind_eq_some_iff.mp H
         obtain ⟨t336, A130, H⟩ := H
         replace H : (kB.l1 k2 x6_5 (wrap64 (x7_2 - t336)) (wrap64 (x9_2 + 1))) = some (r1, r2, r3, r4) := H
         have A13 := Aside0.mk A130
         clear A130
         have H' := Aside0.mk H
         clear H
         go_wp2_with (first | ((with_reducible refine kW (f := 143) rfl ?_); refine jI (some 32) rfl rfl Tryz.func143 (by kernel_rfl) rfl #[.int .i64 x6_5, .int .i64 x9_2] rfl (by (try simp only [List.map_toArray, List.map_cons, List.map_nil]); first | done | rfl | (simp only [List.length_drop, List.length_take]; rfl)) ?_; (with_reducible refine (kC.calls k2 x6_5 x9_2 t335 _ A11.out).mono ?_); rintro e w' ⟨rfl, ⟨nd, rfl⟩⟩; refine ⟨_, rfl, ?_⟩) | ((with_reducible refine kW (f := 143) rfl ?_); refine jI (some 37) rfl rfl Tryz.func143 (by kernel_rfl) rfl #[.int .i64 x6_5, .int .i64 x9_2] rfl (by (try simp only [List.map_toArray, List.map_cons, List.map_nil]); first | done | rfl | (simp only [List.length_drop, List.length_take]; rfl)) ?_; (with_reducible refine (kC.calls k2 x6_5 x9_2 t336 _ A13.out).mono ?_); rintro e w' ⟨rfl, ⟨nd, rfl⟩⟩; refine ⟨_, rfl, ?_⟩))
         go_roundg k2
         case measure => have := HJ5.out; have := HK2.out; omega
         case rel => exact ⟨(wrap64 (x7_2 - t336)), (wrap64 (x9_2 + 1)), (by first | rfl | (simp; done) | (simp [*]; done)), (by first | rfl | (simp; done) | (simp [*]; done)), H', ⟨by have := HJ5.out; have := HK2.out; omega⟩, by repeat (first | exact Drawn0.refl _ | apply Drawn0.step)⟩
       · rw [if_neg c12] at H
         have c12b0 : decide (t335 ≤ x7_2) = false := decide_eq_false c12
         clear c12
         simp only [Option.some.injEq, Prod.mk.injEq] at H
         obtain ⟨rfl, rfl, rfl, rfl⟩ := H
         go_wp2_with (first | ((with_reducible refine kW (f := 143) rfl ?_); refine jI (some 32) rfl rfl Tryz.func143 (by kernel_rfl) rfl #[.int .i64 x6_5, .int .i64 x9_2] rfl (by (try simp only [List.map_toArray, List.map_cons, List.map_nil]); first | done | rfl | (simp only [List.length_drop, List.length_take]; rfl)) ?_; (with_reducible refine (kC.calls k2 x6_5 x9_2 t335 _ A11.out).mono ?_); rintro e w' ⟨rfl, ⟨nd, rfl⟩⟩; refine ⟨_, rfl, ?_⟩))
         refine bodyPost_ret (results_list (rs := [.tmp 2, .tmp 3, .tmp 4, .tmp 5]) rfl (by simp) (.tmp (.tmp (.tmp (.tmp .nil))))) rfl ?_
         exact ⟨by first | rfl | (simp; done) | (simp [*]; done), by repeat (first | exact Drawn0.refl _ | apply Drawn0.step)⟩
 · replace c3 := Bool.eq_false_iff.mpr c3
   subst c3
   have H1 : (some (0, 0, 0, 10)) = some (r1, r2, r3, r4) := by rw [if_neg (show ¬ (false = true) by decide)] at H; exact H
   clear H
   have H := H1
   clear H1
   simp only [Option.some.injEq, Prod.mk.injEq] at H
   obtain ⟨rfl, rfl, rfl, rfl⟩ := H
   go_enter Tryz.func107, Tryz.ntmps107
   go_wp2_with (first | ((with_reducible refine kW (f := 139) rfl ?_); refine jI (some 11) rfl rfl Tryz.func139 (by kernel_rfl) rfl #[.int .i64 a0] rfl (by (try simp only [List.map_toArray, List.map_cons, List.map_nil]); first | done | rfl | (simp only [List.length_drop, List.length_take]; rfl)) ?_; (with_reducible refine (jW.calls k a0 false _ A2.out).mono ?_); rintro e w' ⟨rfl, ⟨nd, rfl⟩⟩; refine ⟨_, rfl, ?_⟩))
   refine bodyPost_ret (results_list (rs := [.tmp 2, .tmp 3, .tmp 4, .tmp 5]) rfl (by simp) (.tmp (.tmp (.tmp (.tmp .nil))))) rfl ?_
   exact ⟨by first | rfl | (simp; done) | (simp [*]; done), by repeat (first | exact Drawn0.refl _ | apply Drawn0.step)⟩
noncomputable def kB.con (k : Nat) : Con
 | [.int .i64 a0] => some ((kB.f k a0).isSome, .tup [.int .i64 (gd (kB.f k a0)).1, .int .i64 (gd (kB.f k a0)).2.1, .int .i64 (gd (kB.f k a0)).2.2.1, .int .i64 (gd (kB.f k a0)).2.2.2])
 | _ => none
set_option maxRecDepth 100000 in
theorem kB.cok (k : Nat) : COk Tryz.prog 107 (kB.con k) := by
 intro args p v hc hp w A hA
 unfold kB.con at hc
 split at hc
 · rename_i a0
   simp only [Option.some.injEq, Prod.mk.injEq] at hc
   obtain ⟨rfl, rfl⟩ := hc
   rcases hf : kB.f k a0 with _ | ⟨r1, r2, r3, r4⟩
   · rw [hf] at hp; cases hp
   obtain rfl : A = [.int .i64 a0] := by simpa [kG, kK, kL, kH, kS, kM, jR] using hA
   exact kT (fn := Tryz.f107) Tryz.func107 (by kernel_rfl) (by kernel_rfl) (kB.calls _ _ _ _ _ _ w hf) (fun _ => by simp [kD, kG, kK, kL, kH, kS, kM, bU]) (fun _ h => h.below)
 · cases hc
def qK.f (k : Nat) (a0 : Int) (a1 : Int) : Option (Int × Int) := if a1 = 0 then some (0, 11) else wdRes a0 a1 (wdOut (wdFl a0 a1))
theorem qK.mono : ∀ a0 a1 k, LeO (qK.f k a0 a1) (qK.f (k + 1) a0 a1) := fun _ _ _ => LeO.refl _
theorem qK.calls (k : Nat) (a0 : Int) (a1 : Int) (r1 : Int) (r2 : Int) (w : World) (h : qK.f k a0 a1 = some (r1, r2)) :
 Calls Tryz.prog 70 #[.int .i64 a0, .int .i64 a1] w fun e w' => e = .returned (.tuple #[.int .i64 r1, .int .i64 r2]) ∧ Below w.heap.size w w' :=
 wdFDiv_calls h
def qH.f (k : Nat) (a0 : Int) (a1 : Int) : Option (Int × Int) := if a1 = 0 then some (0, 11) else wdRes a0 a1 (wdMd a0 a1, 0)
theorem qH.mono : ∀ a0 a1 k, LeO (qH.f k a0 a1) (qH.f (k + 1) a0 a1) := fun _ _ _ => LeO.refl _
theorem qH.calls (k : Nat) (a0 : Int) (a1 : Int) (r1 : Int) (r2 : Int) (w : World) (h : qH.f k a0 a1 = some (r1, r2)) :
 Calls Tryz.prog 71 #[.int .i64 a0, .int .i64 a1] w fun e w' => e = .returned (.tuple #[.int .i64 r1, .int .i64 r2]) ∧ Below w.heap.size w w' :=
 wdFMod_calls h
def bM.f (k : Nat) (a0 : Int) : Option (Int × Int) := (qK.f k a0 86400000000).bind fun bt572 => ((qH.f k a0 86400000000).bind fun bt574 => (some (bt572.1, bt574.1)))
theorem bM.mono : ∀ a0 k, LeO (bM.f k a0) (bM.f (k + 1) a0) := by
 intro a0 k
 unfold bM.f
 repeat' first
  | (with_reducible exact qK.mono _ _ _)
  | (with_reducible exact qH.mono _ _ _)
  | (with_reducible exact LeO.refl _)
  | (with_reducible exact LeO.none _)
  | (with_reducible refine LeO.ite ?_ ?_)
  | (with_reducible refine LeO.bind ?_ (fun _ => ?_))
  | exact qK.mono _ _ _
  | exact qH.mono _ _ _
  | exact LeO.none _
  | refine LeO.ite ?_ ?_
  | refine LeO.bind ?_ (fun _ => ?_)
set_option maxHeartbeats 8000000 in
set_option maxRecDepth 100000 in
theorem bM.calls (k : Nat) (a0 : Int) (r1 : Int) (r2 : Int) (w : World) (h : bM.f k a0 = some (r1, r2)) :
 Calls Tryz.prog 68 #[.int .i64 a0] w fun e w' => e = .returned (.tuple #[.int .i64 r1, .int .i64 r2]) ∧ Below w.heap.size w w' := by
 have HB := Aside0.mk (Below.refl w.heap.size w)
 have H : ((qK.f k a0 86400000000).bind fun bt572 => ((qH.f k a0 86400000000).bind fun bt574 => (some (bt572.1, bt574.1)))) = some (r1, r2) := h
 clear h
 replace H := Option.bind_eq_some_iff.mp H
 obtain ⟨⟨t572, t573⟩, A20, H⟩ := H
 replace H : ((qH.f k a0 86400000000).bind fun bt574 => (some (t572, bt574.1))) = some (r1, r2) := H
 have A2 := Aside0.mk A20
 clear A20
 replace H := Option.bind_eq_some_iff.mp H
 obtain ⟨⟨t574, t575⟩, A30, H⟩ := H
 replace H : (some (t572, t574)) = some (r1, r2) := H
 have A3 := Aside0.mk A30
 clear A30
 simp only [Option.some.injEq, Prod.mk.injEq] at H
 obtain ⟨rfl, rfl⟩ := H
 go_enter Tryz.func68, Tryz.ntmps68
 go_wp2_with (first | ((with_reducible refine kW (f := 70) rfl ?_); refine jI (some 10) rfl rfl Tryz.func70 (by kernel_rfl) rfl #[.int .i64 a0, .int .i64 86400000000] rfl (by (try simp only [List.map_toArray, List.map_cons, List.map_nil]); first | done | rfl | (simp only [List.length_drop, List.length_take]; rfl)) ?_; (with_reducible refine (qK.calls k a0 86400000000 t572 t573 _ A2.out).mono ?_); rintro e w4 ⟨rfl, hb⟩; refine ⟨_, rfl, ?_⟩; have n0_ := Aside0.mk (jZ (by repeat (first | (with_reducible first | exact HB.out | apply kO | apply kF | apply kQ) | exact HB.out)) hb); clear HB; have HB := n0_; clear n0_; (try clear hb); (try clear hb2); (try clear hk); (try clear hi)) | ((with_reducible refine kW (f := 71) rfl ?_); refine jI (some 15) rfl rfl Tryz.func71 (by kernel_rfl) rfl #[.int .i64 a0, .int .i64 86400000000] rfl (by (try simp only [List.map_toArray, List.map_cons, List.map_nil]); first | done | rfl | (simp only [List.length_drop, List.length_take]; rfl)) ?_; (with_reducible refine (qH.calls k a0 86400000000 t574 t575 _ A3.out).mono ?_); rintro e w5 ⟨rfl, hb⟩; refine ⟨_, rfl, ?_⟩; have n0_ := Aside0.mk (jZ (by repeat (first | (with_reducible first | exact HB.out | apply kO | apply kF | apply kQ) | exact HB.out)) hb); clear HB; have HB := n0_; clear n0_; (try clear hb); (try clear hb2); (try clear hk); (try clear hi)))
 go_ret2
 exact ⟨by first | rfl | (simp [zR, zS] <;> rfl) | (simp [*, zR, zS] <;> rfl), by repeat (first | (with_reducible first | exact HB.out | apply kO | apply kF | apply kQ) | exact HB.out)⟩
noncomputable def bM.con (k : Nat) : Con
 | [.int .i64 a0] => some ((bM.f k a0).isSome, .tup [.int .i64 (gd (bM.f k a0)).1, .int .i64 (gd (bM.f k a0)).2])
 | _ => none
set_option maxRecDepth 100000 in
theorem bM.cok (k : Nat) : COk Tryz.prog 68 (bM.con k) := by
 intro args p v hc hp w A hA
 unfold bM.con at hc
 split at hc
 · rename_i a0
   simp only [Option.some.injEq, Prod.mk.injEq] at hc
   obtain ⟨rfl, rfl⟩ := hc
   rcases hf : bM.f k a0 with _ | ⟨r1, r2⟩
   · rw [hf] at hp; cases hp
   obtain rfl : A = [.int .i64 a0] := by simpa [kG, kK, kL, kH, kS, kM, jR] using hA
   exact kT (fn := Tryz.f68) Tryz.func68 (by kernel_rfl) (by kernel_rfl) (bM.calls _ _ _ _ w hf) (fun _ => by simp [kD, kG, kK, kL, kH, kS, kM, bU]) (fun _ h => h)
 · cases hc
def kJ.f (k : Nat) (a0 : Int) : Option (Bool) := (kB.f k a0).bind fun bt576 => (if bt576.2.2.2 = 0 then (if bt576.1 ≥ (-4712) then (some (decide (bt576.1 ≤ 294276))) else (some false)) else (some false))
theorem kJ.mono : ∀ a0 k, LeO (kJ.f k a0) (kJ.f (k + 1) a0) := by
 intro a0 k
 unfold kJ.f
 repeat' first
  | (with_reducible exact kB.mono _ _)
  | (with_reducible exact LeO.refl _)
  | (with_reducible exact LeO.none _)
  | (with_reducible refine LeO.ite ?_ ?_)
  | (with_reducible refine LeO.bind ?_ (fun _ => ?_))
  | exact kB.mono _ _
  | exact LeO.none _
  | refine LeO.ite ?_ ?_
  | refine LeO.bind ?_ (fun _ => ?_)
set_option maxHeartbeats 8000000 in
set_option maxRecDepth 100000 in
theorem kJ.calls (k : Nat) (a0 : Int) (r : Bool) (w : World) (h : kJ.f k a0 = some r) :
 Calls Tryz.prog 69 #[.int .i64 a0] w fun e w' => e = .returned (.bool r) ∧ Drawn0 w w' := by
 have H : ((kB.f k a0).bind fun bt576 => (if bt576.2.2.2 = 0 then (if bt576.1 ≥ (-4712) then (some (decide (bt576.1 ≤ 294276))) else (some false)) else (some false))) = some r := h
 clear h
 replace H := Option.bind_eq_some_iff.mp H
 obtain ⟨⟨t576, t577, t578, t579⟩, A20, H⟩ := H
 replace H : (if t579 = 0 then (if t576 ≥ (-4712) then (some (decide (t576 ≤ 294276))) else (some false)) else (some false)) = some r := H
 have A2 := Aside0.mk A20
 clear A20
 by_cases c3 : t579 = 0
 · rw [if_pos c3] at H
   have c3b0 : (t579 == 0) = true := beq_iff_eq.mpr c3
   have c3b1 : (t579 != 0) = false := bne_eq_false_iff_eq.mpr c3
   clear c3
   by_cases c4 : t576 ≥ (-4712)
   · rw [if_pos c4] at H
     have c4b0 : decide ((-4712) ≤ t576) = true := decide_eq_true c4
     clear c4
     obtain rfl := Option.some.inj H
     go_enter Tryz.func69, Tryz.ntmps69
     go_wp2_with (first | ((with_reducible refine kW (f := 107) rfl ?_); refine jI (some 9) rfl rfl Tryz.func107 (by kernel_rfl) rfl #[.int .i64 a0] rfl (by (try simp only [List.map_toArray, List.map_cons, List.map_nil]); first | done | rfl | (simp only [List.length_drop, List.length_take]; rfl)) ?_; (with_reducible refine (kB.calls k a0 t576 t577 t578 t579 _ A2.out).mono ?_); rintro e w' ⟨rfl, ⟨nd, rfl⟩⟩; refine ⟨_, rfl, ?_⟩))
     go_ret
     exact ⟨by first | rfl | (simp; done) | (simp [*]; done), by repeat (first | exact Drawn0.refl _ | apply Drawn0.step)⟩
   · rw [if_neg c4] at H
     have c4b0 : decide ((-4712) ≤ t576) = false := decide_eq_false c4
     clear c4
     obtain rfl := Option.some.inj H
     go_enter Tryz.func69, Tryz.ntmps69
     go_wp2_with (first | ((with_reducible refine kW (f := 107) rfl ?_); refine jI (some 9) rfl rfl Tryz.func107 (by kernel_rfl) rfl #[.int .i64 a0] rfl (by (try simp only [List.map_toArray, List.map_cons, List.map_nil]); first | done | rfl | (simp only [List.length_drop, List.length_take]; rfl)) ?_; (with_reducible refine (kB.calls k a0 t576 t577 t578 t579 _ A2.out).mono ?_); rintro e w' ⟨rfl, ⟨nd, rfl⟩⟩; refine ⟨_, rfl, ?_⟩))
     go_ret
     exact ⟨by first | rfl | (simp; done) | (simp [*]; done), by repeat (first | exact Drawn0.refl _ | apply Drawn0.step)⟩
 · rw [if_neg c3] at H
   have c3b0 : (t579 == 0) = false := beq_eq_false_iff_ne.mpr c3
   have c3b1 : (t579 != 0) = true := bne_iff_ne.mpr c3
   obtain rfl := Option.some.inj H
   go_enter Tryz.func69, Tryz.ntmps69
   go_wp2_with (first | ((with_reducible refine kW (f := 107) rfl ?_); refine jI (some 9) rfl rfl Tryz.func107 (by kernel_rfl) rfl #[.int .i64 a0] rfl (by (try simp only [List.map_toArray, List.map_cons, List.map_nil]); first | done | rfl | (simp only [List.length_drop, List.length_take]; rfl)) ?_; (with_reducible refine (kB.calls k a0 t576 t577 t578 t579 _ A2.out).mono ?_); rintro e w' ⟨rfl, ⟨nd, rfl⟩⟩; refine ⟨_, rfl, ?_⟩))
   go_ret
   exact ⟨by first | rfl | (simp; done) | (simp [*]; done), by repeat (first | exact Drawn0.refl _ | apply Drawn0.step)⟩
noncomputable def kJ.con (k : Nat) : Con
 | [.int .i64 a0] => some ((kJ.f k a0).isSome, .bool (gd (kJ.f k a0)))
 | _ => none
set_option maxRecDepth 100000 in
theorem kJ.cok (k : Nat) : COk Tryz.prog 69 (kJ.con k) := by
 intro args p v hc hp w A hA
 unfold kJ.con at hc
 split at hc
 · rename_i a0
   simp only [Option.some.injEq, Prod.mk.injEq] at hc
   obtain ⟨rfl, rfl⟩ := hc
   rcases hf : kJ.f k a0 with _ | r
   · rw [hf] at hp; cases hp
   obtain rfl : A = [.int .i64 a0] := by simpa [kG, kK, kL, kH, kS, kM, jR] using hA
   exact kT (fn := Tryz.f69) Tryz.func69 (by kernel_rfl) (by kernel_rfl) (kJ.calls _ _ _ w hf) (fun _ => by simp [kD, kG, kK, kL, kH, kS, kM, bU]) (fun _ h => h.below)
 · cases hc
theorem kJ.up {k : Nat} {a0 : Int} {r : Bool} (h : kJ.f k a0 = some r) : kJ.f (k + 1) a0 = some r := kJ.mono a0 k _ h
theorem kJ.le {a0 : Int} {r : Bool} {k n : Nat} (h : kJ.f k a0 = some r) (hk : k ≤ n) : kJ.f n a0 = some r := by
 induction hk with
 | refl => exact h
 | step _ ih => exact kJ.up ih
def kA.f (k : Nat) (a0_0 : Int) (a0_1 : Int) : Option (Bool) := if a0_0 = 0 then ((bM.f k a0_1).bind fun bt581 => ((kJ.f k bt581.1).bind fun t583 => (some t583))) else (if a0_0 = (-1) then (some (a0_1 == 0)) else (if a0_0 = 1 then (some (a0_1 == 0)) else (some false)))
theorem kA.mono : ∀ a0 a1 k, LeO (kA.f k a0 a1) (kA.f (k + 1) a0 a1) := by
 intro a0 a1 k
 unfold kA.f
 repeat' first
  | (with_reducible exact bM.mono _ _)
  | (with_reducible exact kJ.mono _ _)
  | (with_reducible exact LeO.refl _)
  | (with_reducible exact LeO.none _)
  | (with_reducible refine LeO.ite ?_ ?_)
  | (with_reducible refine LeO.bind ?_ (fun _ => ?_))
  | exact bM.mono _ _
  | exact kJ.mono _ _
  | exact LeO.none _
  | refine LeO.ite ?_ ?_
  | refine LeO.bind ?_ (fun _ => ?_)
set_option maxRecDepth 100000 in
theorem kA.vc (k : Nat) (a0_0 : Int) (a0_1 : Int) (K : AV → Prop) : afv PA Tryz.prog (tab [(68, bM.con k), (69, kJ.con k)]) noLoops 2 30 [.agg [.int .i64 a0_0, .int .i64 a0_1]] K = (brc (a0_0 == 0) (brc (Option.isSome (bM.f k a0_1)) (∀ (m0 : Int), m0 = Prod.fst (gd (bM.f k a0_1)) → ∀ (m1 : Int), m1 = Prod.snd (gd (bM.f k a0_1)) → brc (Option.isSome (kJ.f k m0)) (∀ (m2 : Bool), m2 = gd (kJ.f k m0) → K (AV.bool m2)) False) False) (brc (a0_0 == -1) (K (AV.bool (a0_1 == 0))) (brc (a0_0 == 1) (K (AV.bool (a0_1 == 0))) (K (AV.bool false))))) := by kernel_rfl
set_option maxHeartbeats 1000000 in
set_option maxRecDepth 100000 in
theorem kA.calls (k : Nat) (a0_0 : Int) (a0_1 : Int) (r : Bool) (w : World) (h : kA.f k a0_0 a0_1 = some r) :
 Calls Tryz.prog 30 #[.agg #[.int .i64 a0_0, .int .i64 a0_1]] w fun e w' => e = .returned (.bool r) ∧ Below w.heap.size w w' := by
 refine bZ (A := [.agg #[.int .i64 a0_0, .int .i64 a0_1]]) (v := .bool r) (kP (bM.cok k) (kP (kJ.cok k) (jV))) ((kA.vc k a0_0 a0_1 _).mpr ?_) (by simp [kG, kK, kL, kH, kS, kM, jR]) (fun ρ V' hV => by simpa [kG, kK, kL, kH, kS, kM, bU] using hV)
 unfold kA.f at h
 (try simp only [bne, Option.bind_eq_some_iff, bS] at h)
 (try simp only [bne, zM, wrap_i64])
 first
  | grind (splits := 60) [kD]
  | ((repeat' (first | (have or_ : Or _ _ := h; clear or_; rcases h with h | h) | (have or_ : Exists _ := h; clear or_; obtain ⟨_, h⟩ := h) | (have or_ : And _ _ := h; clear or_; obtain ⟨hq_, h⟩ := h))) <;> (try simp only [Option.some.injEq, Prod.mk.injEq, reduceCtorEq] at h) <;> (try subst_vars) <;> first | (simp_all [kD] <;> (try omega) <;> done) | grind (splits := 60) [kD])
  | (intros; subst_vars; simp_all [kD]; done)
noncomputable def kA.con (k : Nat) : Con
 | [.agg [.int .i64 a0_0, .int .i64 a0_1]] => some ((kA.f k a0_0 a0_1).isSome, .bool (gd (kA.f k a0_0 a0_1)))
 | _ => none
set_option maxRecDepth 100000 in
theorem kA.cok (k : Nat) : COk Tryz.prog 30 (kA.con k) := by
 intro args p v hc hp w A hA
 unfold kA.con at hc
 split at hc
 · rename_i a0_0 a0_1
   simp only [Option.some.injEq, Prod.mk.injEq] at hc
   obtain ⟨rfl, rfl⟩ := hc
   rcases hf : kA.f k a0_0 a0_1 with _ | r
   · rw [hf] at hp; cases hp
   obtain rfl : A = [.agg #[.int .i64 a0_0, .int .i64 a0_1]] := by simpa [kG, kK, kL, kH, kS, kM, jR] using hA
   exact kT (fn := Tryz.f30) Tryz.func30 (by kernel_rfl) (by kernel_rfl) (kA.calls _ _ _ _ w hf) (fun _ => by simp [kD, kG, kK, kL, kH, kS, kM, bU]) (fun _ h => h)
 · cases hc
theorem kA.up {k : Nat} {a0_0 : Int} {a0_1 : Int} {r : Bool} (h : kA.f k a0_0 a0_1 = some r) : kA.f (k + 1) a0_0 a0_1 = some r := kA.mono a0_0 a0_1 k _ h
theorem kA.le {a0_0 : Int} {a0_1 : Int} {r : Bool} {k n : Nat} (h : kA.f k a0_0 a0_1 = some r) (hk : k ≤ n) : kA.f n a0_0 a0_1 = some r := by
 induction hk with
 | refl => exact h
 | step _ ih => exact kA.up ih
end Go.Proofs.YtimgphlfaninnaaGreat.P
