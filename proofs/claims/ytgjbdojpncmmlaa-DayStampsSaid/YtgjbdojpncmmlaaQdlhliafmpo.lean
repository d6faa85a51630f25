-- Written by a program of the session (a print of the seat's translation, functions given by hand among it). Lean checks it.
import Derived.Test.YtgjbdojpncmmlaaQbjoegdnofm
import Derived.Test.YtgjbdojpncmmlaaQichagbehpd
import Derived.Test.YtgjbdojpncmmlaaQnfkpijegfp
import Derived.Test.YtgjbdojpncmmlaaQdojgepkmel
import Derived.Test.YtgjbdojpncmmlaaQfhmfffjpae
import Derived.Test.YtgjbdojpncmmlaaQjodejgchgi
import Derived.Test.YtgjbdojpncmmlaaQbillkehdnn
import Derived.Test.YtgjbdojpncmmlaaQnjbjiibdlc
namespace Go.Proofs.Ytgjbdojpncmmlaa.P
open Go.RowKit Go.Proofs.YtgjbdojpncmmlaaW.PrintWords Go.Proofs.YtgjbdojpncmmlaaW.PrintLast Go.Proofs.YtgjbdojpncmmlaaW.PrintMore
open Go.Proofs.Ytgjbdojpncmmlaa.A
attribute [local go_sem] max2_int min2_int max_two min_two max_three min_three max_four min_four   -- for this text's walks alone
set_option linter.unusedVariables false
set_option linter.unusedSimpArgs false
def computusref01_Mod.f (k : Nat) (a0 : Int) (a1 : Int) : Option (Int × Int) := if a1 = 0 then (some (0, 11)) else ((computusref01_Of.f a0).bind fun bt590 => ((computusref01_Of.f a1).bind fun bt594 => ((computusref01_Of.f a0).bind fun bt598 => ((computusref01_Of.f a1).bind fun bt602 => ((computusref01_Over.f k bt598.1 bt598.2 bt602.1 bt602.2).bind fun bt606 => ((computusref01_Times.f k bt594.1 bt594.2 bt606.1 bt606.2).bind fun bt610 => ((computusref01_Minus.f k bt610.1 bt610.2).bind fun bt614 => ((computusref01_Plus.f k bt590.1 bt590.2 bt614.1 bt614.2).bind fun bt618 => ((computusref01_Small.f k bt618.1 bt618.2).bind fun bt622 => (some (bt622.1, bt622.2)))))))))))
set_option maxHeartbeats 8000000 in
set_option maxRecDepth 100000 in
theorem computusref01_Mod.calls (k : Nat) (a0 : Int) (a1 : Int) (r1 : Int) (r2 : Int) (w : World) (h : computusref01_Mod.f k a0 a1 = some (r1, r2)) :
    Calls Try.prog 77 #[.int .i64 a0, .int .i64 a1] w fun e w' => e = .returned (.tuple #[.int .i64 r1, .int .i64 r2]) ∧ Below w.heap.size w w' := by
  have HB := Aside0.mk (Below.refl w.heap.size w)
  have H : (if a1 = 0 then (some (0, 11)) else ((computusref01_Of.f a0).bind fun bt590 => ((computusref01_Of.f a1).bind fun bt594 => ((computusref01_Of.f a0).bind fun bt598 => ((computusref01_Of.f a1).bind fun bt602 => ((computusref01_Over.f k bt598.1 bt598.2 bt602.1 bt602.2).bind fun bt606 => ((computusref01_Times.f k bt594.1 bt594.2 bt606.1 bt606.2).bind fun bt610 => ((computusref01_Minus.f k bt610.1 bt610.2).bind fun bt614 => ((computusref01_Plus.f k bt590.1 bt590.2 bt614.1 bt614.2).bind fun bt618 => ((computusref01_Small.f k bt618.1 bt618.2).bind fun bt622 => (some (bt622.1, bt622.2)))))))))))) = some (r1, r2) := h
  clear h
  by_cases c3 : a1 = 0
  · rw [if_pos c3] at H
    have c3b0 : (a1 == 0) = true := beq_iff_eq.mpr c3
    have c3b1 : (a1 != 0) = false := bne_eq_false_iff_eq.mpr c3
    clear c3
    simp only [Option.some.injEq, Prod.mk.injEq] at H
    obtain ⟨rfl, rfl⟩ := H
    go_enter Try.func77, Try.ntmps77
    go_wp2
    go_ret2
    exact ⟨by first | rfl | (simp [errW_none, errW_some] <;> rfl) | (simp [*, errW_none, errW_some] <;> rfl), by repeat (first | (with_reducible first | exact HB.out | apply kG | apply kD | apply kF) | exact HB.out)⟩
  · rw [if_neg c3] at H
    have c3b0 : (a1 == 0) = false := beq_eq_false_iff_ne.mpr c3
    have c3b1 : (a1 != 0) = true := bne_iff_ne.mpr c3
    replace H := Option.bind_eq_some_iff.mp H
    obtain ⟨⟨t590, t591⟩, A40, H⟩ := H
    replace H : ((computusref01_Of.f a1).bind fun bt594 => ((computusref01_Of.f a0).bind fun bt598 => ((computusref01_Of.f a1).bind fun bt602 => ((computusref01_Over.f k bt598.1 bt598.2 bt602.1 bt602.2).bind fun bt606 => ((computusref01_Times.f k bt594.1 bt594.2 bt606.1 bt606.2).bind fun bt610 => ((computusref01_Minus.f k bt610.1 bt610.2).bind fun bt614 => ((computusref01_Plus.f k t590 t591 bt614.1 bt614.2).bind fun bt618 => ((computusref01_Small.f k bt618.1 bt618.2).bind fun bt622 => (some (bt622.1, bt622.2)))))))))) = some (r1, r2) := H
    have A4 := Aside0.mk A40
    clear A40
    replace H := Option.bind_eq_some_iff.mp H
    obtain ⟨⟨t594, t595⟩, A50, H⟩ := H
    replace H : ((computusref01_Of.f a0).bind fun bt598 => ((computusref01_Of.f a1).bind fun bt602 => ((computusref01_Over.f k bt598.1 bt598.2 bt602.1 bt602.2).bind fun bt606 => ((computusref01_Times.f k t594 t595 bt606.1 bt606.2).bind fun bt610 => ((computusref01_Minus.f k bt610.1 bt610.2).bind fun bt614 => ((computusref01_Plus.f k t590 t591 bt614.1 bt614.2).bind fun bt618 => ((computusref01_Small.f k bt618.1 bt618.2).bind fun bt622 => (some (bt622.1, bt622.2))))))))) = some (r1, r2) := H
    have A5 := Aside0.mk A50
    clear A50
    replace H := Option.bind_eq_some_iff.mp H
    obtain ⟨⟨t598, t599⟩, A60, H⟩ := H
    replace H : ((computusref01_Of.f a1).bind fun bt602 => ((computusref01_Over.f k t598 t599 bt602.1 bt602.2).bind fun bt606 => ((computusref01_Times.f k t594 t595 bt606.1 bt606.2).bind fun bt610 => ((computusref01_Minus.f k bt610.1 bt610.2).bind fun bt614 => ((computusref01_Plus.f k t590 t591 bt614.1 bt614.2).bind fun bt618 => ((computusref01_Small.f k bt618.1 bt618.2).bind fun bt622 => (some (bt622.1, bt622.2)))))))) = some (r1, r2) := H
    have A6 := Aside0.mk A60
    clear A60
    replace H := Option.bind_eq_some_iff.mp H
    obtain ⟨⟨t602, t603⟩, A70, H⟩ := H
    replace H : ((computusref01_Over.f k t598 t599 t602 t603).bind fun bt606 => ((computusref01_Times.f k t594 t595 bt606.1 bt606.2).bind fun bt610 => ((computusref01_Minus.f k bt610.1 bt610.2).bind fun bt614 => ((computusref01_Plus.f k t590 t591 bt614.1 bt614.2).bind fun bt618 => ((computusref01_Small.f k bt618.1 bt618.2).bind fun bt622 => (some (bt622.1, bt622.2))))))) = some (r1, r2) := H
    have A7 := Aside0.mk A70
    clear A70
    replace H := Option.bind_eq_some_iff.mp H
    obtain ⟨⟨t606, t607⟩, A80, H⟩ := H
    replace H : ((computusref01_Times.f k t594 t595 t606 t607).bind fun bt610 => ((computusref01_Minus.f k bt610.1 bt610.2).bind fun bt614 => ((computusref01_Plus.f k t590 t591 bt614.1 bt614.2).bind fun bt618 => ((computusref01_Small.f k bt618.1 bt618.2).bind fun bt622 => (some (bt622.1, bt622.2)))))) = some (r1, r2) := H
    have A8 := Aside0.mk A80
    clear A80
    replace H := Option.bind_eq_some_iff.mp H
    obtain ⟨⟨t610, t611⟩, A90, H⟩ := H
    replace H : ((computusref01_Minus.f k t610 t611).bind fun bt614 => ((computusref01_Plus.f k t590 t591 bt614.1 bt614.2).bind fun bt618 => ((computusref01_Small.f k bt618.1 bt618.2).bind fun bt622 => (some (bt622.1, bt622.2))))) = some (r1, r2) := H
    have A9 := Aside0.mk A90
    clear A90
    replace H := Option.bind_eq_some_iff.mp H
    obtain ⟨⟨t614, t615⟩, A100, H⟩ := H
    replace H : ((computusref01_Plus.f k t590 t591 t614 t615).bind fun bt618 => ((computusref01_Small.f k bt618.1 bt618.2).bind fun bt622 => (some (bt622.1, bt622.2)))) = some (r1, r2) := H
    have A10 := Aside0.mk A100
    clear A100
    replace H := Option.bind_eq_some_iff.mp H
    obtain ⟨⟨t618, t619⟩, A110, H⟩ := H
    replace H : ((computusref01_Small.f k t618 t619).bind fun bt622 => (some (bt622.1, bt622.2))) = some (r1, r2) := H
    have A11 := Aside0.mk A110
    clear A110
    replace H := Option.bind_eq_some_iff.mp H
    obtain ⟨⟨t622, t623⟩, A120, H⟩ := H
    replace H : (some (t622, t623)) = some (r1, r2) := H
    have A12 := Aside0.mk A120
    clear A120
    simp only [Option.some.injEq, Prod.mk.injEq] at H
    obtain ⟨rfl, rfl⟩ := H
    go_enter Try.func77, Try.ntmps77
    go_wp2_with (first | ((with_reducible refine kL (f := 71) rfl ?_); refine goesL_ (some 9) rfl rfl Try.func71 (by kernel_rfl) rfl #[.int .i64 a0] rfl (by (try simp only [List.map_toArray, List.map_cons, List.map_nil]); first | done | rfl | (simp only [List.length_drop, List.length_take]; rfl)) ?_; (with_reducible refine (computusref01_Of.calls a0 t590 t591 _ A4.out).mono ?_); rintro e w13 ⟨v592, rfl, ho0, hb⟩; refine ⟨_, rfl, ?_⟩; have n0_ := Aside0.mk (Kd.R_lower ho0 (kK (by repeat (first | (with_reducible first | exact HB.out | apply kG | apply kD | apply kF) | exact HB.out)))); have n1_ := Aside0.mk (kM (by repeat (first | (with_reducible first | exact HB.out | apply kG | apply kD | apply kF) | exact HB.out)) hb); clear HB; have HO593 := n0_; have HB := n1_; clear n0_ n1_; (try clear hb); (try clear hb2); (try clear hk); (try clear hi); (try clear ho0)) | ((with_reducible refine kL (f := 71) rfl ?_); refine goesL_ (some 11) rfl rfl Try.func71 (by kernel_rfl) rfl #[.int .i64 a1] rfl (by (try simp only [List.map_toArray, List.map_cons, List.map_nil]); first | done | rfl | (simp only [List.length_drop, List.length_take]; rfl)) ?_; (with_reducible refine (computusref01_Of.calls a1 t594 t595 _ A5.out).mono ?_); rintro e w14 ⟨v596, rfl, ho0, hb⟩; refine ⟨_, rfl, ?_⟩; have n0_ := Aside0.mk (Kd.R_elder' (by (with_reducible repeat (first | apply Kd.R_alloc | apply Kd.R_drewN | apply Kd.R_drew)); exact HO593.out) (Kd.R_base ho0) hb); have n1_ := Aside0.mk (Kd.R_lower (Kd.R_new' ho0 (Kd.R_lt (by (with_reducible repeat (first | apply Kd.R_alloc | apply Kd.R_drewN | apply Kd.R_drew)); exact HO593.out))) (kK (by repeat (first | (with_reducible first | exact HB.out | apply kG | apply kD | apply kF) | exact HB.out)))); have n2_ := Aside0.mk (kM (by repeat (first | (with_reducible first | exact HB.out | apply kG | apply kD | apply kF) | exact HB.out)) hb); clear HO593; clear HB; have HO593 := n0_; have HO597 := n1_; have HB := n2_; clear n0_ n1_ n2_; (try clear hb); (try clear hb2); (try clear hk); (try clear hi); (try clear ho0)) | ((with_reducible refine kL (f := 71) rfl ?_); refine goesL_ (some 13) rfl rfl Try.func71 (by kernel_rfl) rfl #[.int .i64 a0] rfl (by (try simp only [List.map_toArray, List.map_cons, List.map_nil]); first | done | rfl | (simp only [List.length_drop, List.length_take]; rfl)) ?_; (with_reducible refine (computusref01_Of.calls a0 t598 t599 _ A6.out).mono ?_); rintro e w15 ⟨v600, rfl, ho0, hb⟩; refine ⟨_, rfl, ?_⟩; have n0_ := Aside0.mk (Kd.R_elder' (by (with_reducible repeat (first | apply Kd.R_alloc | apply Kd.R_drewN | apply Kd.R_drew)); exact HO593.out) (Kd.R_base ho0) hb); have n1_ := Aside0.mk (Kd.R_elder' (by (with_reducible repeat (first | apply Kd.R_alloc | apply Kd.R_drewN | apply Kd.R_drew)); exact HO597.out) (Kd.R_base ho0) hb); have n2_ := Aside0.mk (Kd.R_lower (Kd.R_new' (Kd.R_new' ho0 (Kd.R_lt (by (with_reducible repeat (first | apply Kd.R_alloc | apply Kd.R_drewN | apply Kd.R_drew)); exact HO593.out))) (Kd.R_lt (by (with_reducible repeat (first | apply Kd.R_alloc | apply Kd.R_drewN | apply Kd.R_drew)); exact HO597.out))) (kK (by repeat (first | (with_reducible first | exact HB.out | apply kG | apply kD | apply kF) | exact HB.out)))); have n3_ := Aside0.mk (kM (by repeat (first | (with_reducible first | exact HB.out | apply kG | apply kD | apply kF) | exact HB.out)) hb); clear HO593; clear HO597; clear HB; have HO593 := n0_; have HO597 := n1_; have HO601 := n2_; have HB := n3_; clear n0_ n1_ n2_ n3_; (try clear hb); (try clear hb2); (try clear hk); (try clear hi); (try clear ho0)) | ((with_reducible refine kL (f := 71) rfl ?_); refine goesL_ (some 15) rfl rfl Try.func71 (by kernel_rfl) rfl #[.int .i64 a1] rfl (by (try simp only [List.map_toArray, List.map_cons, List.map_nil]); first | done | rfl | (simp only [List.length_drop, List.length_take]; rfl)) ?_; (with_reducible refine (computusref01_Of.calls a1 t602 t603 _ A7.out).mono ?_); rintro e w16 ⟨v604, rfl, ho0, hb⟩; refine ⟨_, rfl, ?_⟩; have n0_ := Aside0.mk (Kd.R_elder' (by (with_reducible repeat (first | apply Kd.R_alloc | apply Kd.R_drewN | apply Kd.R_drew)); exact HO593.out) (Kd.R_base ho0) hb); have n1_ := Aside0.mk (Kd.R_elder' (by (with_reducible repeat (first | apply Kd.R_alloc | apply Kd.R_drewN | apply Kd.R_drew)); exact HO597.out) (Kd.R_base ho0) hb); have n2_ := Aside0.mk (Kd.R_elder' (by (with_reducible repeat (first | apply Kd.R_alloc | apply Kd.R_drewN | apply Kd.R_drew)); exact HO601.out) (Kd.R_base ho0) hb); have n3_ := Aside0.mk (Kd.R_lower (Kd.R_new' (Kd.R_new' (Kd.R_new' ho0 (Kd.R_lt (by (with_reducible repeat (first | apply Kd.R_alloc | apply Kd.R_drewN | apply Kd.R_drew)); exact HO593.out))) (Kd.R_lt (by (with_reducible repeat (first | apply Kd.R_alloc | apply Kd.R_drewN | apply Kd.R_drew)); exact HO597.out))) (Kd.R_lt (by (with_reducible repeat (first | apply Kd.R_alloc | apply Kd.R_drewN | apply Kd.R_drew)); exact HO601.out))) (kK (by repeat (first | (with_reducible first | exact HB.out | apply kG | apply kD | apply kF) | exact HB.out)))); have n4_ := Aside0.mk (kM (by repeat (first | (with_reducible first | exact HB.out | apply kG | apply kD | apply kF) | exact HB.out)) hb); clear HO593; clear HO597; clear HO601; clear HB; have HO593 := n0_; have HO597 := n1_; have HO601 := n2_; have HO605 := n3_; have HB := n4_; clear n0_ n1_ n2_ n3_ n4_; (try clear hb); (try clear hb2); (try clear hk); (try clear hi); (try clear ho0); obtain ⟨Ao17, co17, eo17⟩ := Kd.R_slice HO601.out; subst eo17; obtain ⟨Ao18, co18, eo18⟩ := Kd.R_slice HO605.out; subst eo18) | ((with_reducible refine kL (f := 90) rfl ?_); refine goesL_ (some 16) rfl rfl Try.func90 (by kernel_rfl) rfl #[.agg #[.bool t598, .slice Ao17 t599.length co17], .agg #[.bool t602, .slice Ao18 t603.length co18]] rfl (by (try simp only [List.map_toArray, List.map_cons, List.map_nil]); first | done | rfl | (simp only [List.length_drop, List.length_take]; rfl)) ?_; (with_reducible refine (computusref01_Over.calls k t598 _ _ t599 t602 _ _ t603 t606 t607 _ ?side1 ?side2 ?side3 ?side4 A8.out).mono ?_); (case side1 => repeat (first | exact (Kd.R_reads' HO601.out).2.2 | (with_reducible refine Kd.C_alloc ?_ _) | (with_reducible refine Kd.C_drewN ?_ _) | (with_reducible refine Kd.C_drew ?_))); (case side2 => exact (Kd.R_reads' HO601.out).2.1); (case side3 => repeat (first | exact (Kd.R_reads' HO605.out).2.2 | (with_reducible refine Kd.C_alloc ?_ _) | (with_reducible refine Kd.C_drewN ?_ _) | (with_reducible refine Kd.C_drew ?_))); (case side4 => exact (Kd.R_reads' HO605.out).2.1); rintro e w19 ⟨v608, rfl, ho0, hb⟩; refine ⟨_, rfl, ?_⟩; have n0_ := Aside0.mk (Kd.R_elder' (by (with_reducible repeat (first | apply Kd.R_alloc | apply Kd.R_drewN | apply Kd.R_drew)); exact HO593.out) (Kd.R_base ho0) hb); have n1_ := Aside0.mk (Kd.R_elder' (by (with_reducible repeat (first | apply Kd.R_alloc | apply Kd.R_drewN | apply Kd.R_drew)); exact HO597.out) (Kd.R_base ho0) hb); have n2_ := Aside0.mk (Kd.R_elder' (by (with_reducible repeat (first | apply Kd.R_alloc | apply Kd.R_drewN | apply Kd.R_drew)); exact HO601.out) (Kd.R_base ho0) hb); have n3_ := Aside0.mk (Kd.R_elder' (by (with_reducible repeat (first | apply Kd.R_alloc | apply Kd.R_drewN | apply Kd.R_drew)); exact HO605.out) (Kd.R_base ho0) hb); have n4_ := Aside0.mk (Kd.R_lower (Kd.R_new' (Kd.R_new' (Kd.R_new' (Kd.R_new' ho0 (Kd.R_lt (by (with_reducible repeat (first | apply Kd.R_alloc | apply Kd.R_drewN | apply Kd.R_drew)); exact HO593.out))) (Kd.R_lt (by (with_reducible repeat (first | apply Kd.R_alloc | apply Kd.R_drewN | apply Kd.R_drew)); exact HO597.out))) (Kd.R_lt (by (with_reducible repeat (first | apply Kd.R_alloc | apply Kd.R_drewN | apply Kd.R_drew)); exact HO601.out))) (Kd.R_lt (by (with_reducible repeat (first | apply Kd.R_alloc | apply Kd.R_drewN | apply Kd.R_drew)); exact HO605.out))) (kK (by repeat (first | (with_reducible first | exact HB.out | apply kG | apply kD | apply kF) | exact HB.out)))); have n5_ := Aside0.mk (kM (by repeat (first | (with_reducible first | exact HB.out | apply kG | apply kD | apply kF) | exact HB.out)) hb); clear HO593; clear HO597; clear HO601; clear HO605; clear HB; have HO593 := n0_; have HO597 := n1_; have HO601 := n2_; have HO605 := n3_; have HO609 := n4_; have HB := n5_; clear n0_ n1_ n2_ n3_ n4_ n5_; (try clear hb); (try clear hb2); (try clear hk); (try clear hi); (try clear ho0); obtain ⟨Ao20, co20, eo20⟩ := Kd.R_slice HO597.out; subst eo20; obtain ⟨Ao21, co21, eo21⟩ := Kd.R_slice HO609.out; subst eo21) | ((with_reducible refine kL (f := 92) rfl ?_); refine goesL_ (some 17) rfl rfl Try.func92 (by kernel_rfl) rfl #[.agg #[.bool t594, .slice Ao20 t595.length co20], .agg #[.bool t606, .slice Ao21 t607.length co21]] rfl (by (try simp only [List.map_toArray, List.map_cons, List.map_nil]); first | done | rfl | (simp only [List.length_drop, List.length_take]; rfl)) ?_; (with_reducible refine (computusref01_Times.calls k t594 _ _ t595 t606 _ _ t607 t610 t611 _ ?side1 ?side2 ?side3 ?side4 A9.out).mono ?_); (case side1 => repeat (first | exact (Kd.R_reads' HO597.out).2.2 | (with_reducible refine Kd.C_alloc ?_ _) | (with_reducible refine Kd.C_drewN ?_ _) | (with_reducible refine Kd.C_drew ?_))); (case side2 => exact (Kd.R_reads' HO597.out).2.1); (case side3 => repeat (first | exact (Kd.R_reads' HO609.out).2.2 | (with_reducible refine Kd.C_alloc ?_ _) | (with_reducible refine Kd.C_drewN ?_ _) | (with_reducible refine Kd.C_drew ?_))); (case side4 => exact (Kd.R_reads' HO609.out).2.1); rintro e w22 ⟨v612, rfl, ho0, hb⟩; refine ⟨_, rfl, ?_⟩; have n0_ := Aside0.mk (Kd.R_elder' (by (with_reducible repeat (first | apply Kd.R_alloc | apply Kd.R_drewN | apply Kd.R_drew)); exact HO593.out) (Kd.R_base ho0) hb); have n1_ := Aside0.mk (Kd.R_elder' (by (with_reducible repeat (first | apply Kd.R_alloc | apply Kd.R_drewN | apply Kd.R_drew)); exact HO597.out) (Kd.R_base ho0) hb); have n2_ := Aside0.mk (Kd.R_elder' (by (with_reducible repeat (first | apply Kd.R_alloc | apply Kd.R_drewN | apply Kd.R_drew)); exact HO601.out) (Kd.R_base ho0) hb); have n3_ := Aside0.mk (Kd.R_elder' (by (with_reducible repeat (first | apply Kd.R_alloc | apply Kd.R_drewN | apply Kd.R_drew)); exact HO605.out) (Kd.R_base ho0) hb); have n4_ := Aside0.mk (Kd.R_elder' (by (with_reducible repeat (first | apply Kd.R_alloc | apply Kd.R_drewN | apply Kd.R_drew)); exact HO609.out) (Kd.R_base ho0) hb); have n5_ := Aside0.mk (Kd.R_lower (Kd.R_new' (Kd.R_new' (Kd.R_new' (Kd.R_new' (Kd.R_new' ho0 (Kd.R_lt (by (with_reducible repeat (first | apply Kd.R_alloc | apply Kd.R_drewN | apply Kd.R_drew)); exact HO593.out))) (Kd.R_lt (by (with_reducible repeat (first | apply Kd.R_alloc | apply Kd.R_drewN | apply Kd.R_drew)); exact HO597.out))) (Kd.R_lt (by (with_reducible repeat (first | apply Kd.R_alloc | apply Kd.R_drewN | apply Kd.R_drew)); exact HO601.out))) (Kd.R_lt (by (with_reducible repeat (first | apply Kd.R_alloc | apply Kd.R_drewN | apply Kd.R_drew)); exact HO605.out))) (Kd.R_lt (by (with_reducible repeat (first | apply Kd.R_alloc | apply Kd.R_drewN | apply Kd.R_drew)); exact HO609.out))) (kK (by repeat (first | (with_reducible first | exact HB.out | apply kG | apply kD | apply kF) | exact HB.out)))); have n6_ := Aside0.mk (kM (by repeat (first | (with_reducible first | exact HB.out | apply kG | apply kD | apply kF) | exact HB.out)) hb); clear HO593; clear HO597; clear HO601; clear HO605; clear HO609; clear HB; have HO593 := n0_; have HO597 := n1_; have HO601 := n2_; have HO605 := n3_; have HO609 := n4_; have HO613 := n5_; have HB := n6_; clear n0_ n1_ n2_ n3_ n4_ n5_ n6_; (try clear hb); (try clear hb2); (try clear hk); (try clear hi); (try clear ho0); obtain ⟨Ao23, co23, eo23⟩ := Kd.R_slice HO613.out; subst eo23) | ((with_reducible refine kL (f := 91) rfl ?_); refine goesL_ (some 18) rfl rfl Try.func91 (by kernel_rfl) rfl #[.agg #[.bool t610, .slice Ao23 t611.length co23]] rfl (by (try simp only [List.map_toArray, List.map_cons, List.map_nil]); first | done | rfl | (simp only [List.length_drop, List.length_take]; rfl)) ?_; (with_reducible refine (computusref01_Minus.calls k t610 (fun k_ => some k_ = (.slice Ao23 t611.length co23 : Value).ownBlock) (.slice Ao23 t611.length co23) t611 t614 t615 w _ ?side1 ?side2 A10.out).mono ?_); (case side1 => repeat (first | (with_reducible first | exact HB.out | apply kG | apply kD | apply kF) | exact HB.out)); (case side2 => exact Kd.R_tight rfl HO613.out); rintro e w24 ⟨v616, rfl, ho0, hb, hkp⟩; refine ⟨_, rfl, ?_⟩; have n0_ := Aside0.mk (Kd.R_mono (ok' := fun k_ => some k_ ≠ (.slice Ao20 t595.length co20 : Value).ownBlock ∧ some k_ ≠ (.slice Ao17 t599.length co17 : Value).ownBlock ∧ some k_ ≠ (.slice Ao18 t603.length co18 : Value).ownBlock ∧ some k_ ≠ (.slice Ao21 t607.length co21 : Value).ownBlock ∧ some k_ ≠ (v616 : Value).ownBlock) (Kd.R_keptB (HO593.out) hkp (fun k_ hk_ hs_ => (hk_.2) hs_)) (fun k_ hk_ => ⟨hk_.1.1.1.1.1.2, hk_.1.1.1.1.2, hk_.1.1.1.2, hk_.1.1.2, fun e_ => Or.elim (ho0.1 k_ e_.symm) (fun hs_ => hk_.2.1 hs_) (fun hn_ => Nat.not_le.2 hk_.2.2 hn_)⟩)); have n1_ := Aside0.mk (Kd.R_mono (ok' := fun k_ => some k_ ≠ (v592 : Value).ownBlock ∧ some k_ ≠ (.slice Ao17 t599.length co17 : Value).ownBlock ∧ some k_ ≠ (.slice Ao18 t603.length co18 : Value).ownBlock ∧ some k_ ≠ (.slice Ao21 t607.length co21 : Value).ownBlock ∧ some k_ ≠ (v616 : Value).ownBlock) (Kd.R_keptB (HO597.out) hkp (fun k_ hk_ hs_ => (hk_.2) hs_)) (fun k_ hk_ => ⟨hk_.1.1.1.1.1.2, hk_.1.1.1.1.2, hk_.1.1.1.2, hk_.1.1.2, fun e_ => Or.elim (ho0.1 k_ e_.symm) (fun hs_ => hk_.2.1 hs_) (fun hn_ => Nat.not_le.2 hk_.2.2 hn_)⟩)); have n2_ := Aside0.mk (Kd.R_mono (ok' := fun k_ => some k_ ≠ (v592 : Value).ownBlock ∧ some k_ ≠ (.slice Ao20 t595.length co20 : Value).ownBlock ∧ some k_ ≠ (.slice Ao18 t603.length co18 : Value).ownBlock ∧ some k_ ≠ (.slice Ao21 t607.length co21 : Value).ownBlock ∧ some k_ ≠ (v616 : Value).ownBlock) (Kd.R_keptB (HO601.out) hkp (fun k_ hk_ hs_ => (hk_.2) hs_)) (fun k_ hk_ => ⟨hk_.1.1.1.1.1.2, hk_.1.1.1.1.2, hk_.1.1.1.2, hk_.1.1.2, fun e_ => Or.elim (ho0.1 k_ e_.symm) (fun hs_ => hk_.2.1 hs_) (fun hn_ => Nat.not_le.2 hk_.2.2 hn_)⟩)); have n3_ := Aside0.mk (Kd.R_mono (ok' := fun k_ => some k_ ≠ (v592 : Value).ownBlock ∧ some k_ ≠ (.slice Ao20 t595.length co20 : Value).ownBlock ∧ some k_ ≠ (.slice Ao17 t599.length co17 : Value).ownBlock ∧ some k_ ≠ (.slice Ao21 t607.length co21 : Value).ownBlock ∧ some k_ ≠ (v616 : Value).ownBlock) (Kd.R_keptB (HO605.out) hkp (fun k_ hk_ hs_ => (hk_.2) hs_)) (fun k_ hk_ => ⟨hk_.1.1.1.1.1.2, hk_.1.1.1.1.2, hk_.1.1.1.2, hk_.1.1.2, fun e_ => Or.elim (ho0.1 k_ e_.symm) (fun hs_ => hk_.2.1 hs_) (fun hn_ => Nat.not_le.2 hk_.2.2 hn_)⟩)); have n4_ := Aside0.mk (Kd.R_mono (ok' := fun k_ => some k_ ≠ (v592 : Value).ownBlock ∧ some k_ ≠ (.slice Ao20 t595.length co20 : Value).ownBlock ∧ some k_ ≠ (.slice Ao17 t599.length co17 : Value).ownBlock ∧ some k_ ≠ (.slice Ao18 t603.length co18 : Value).ownBlock ∧ some k_ ≠ (v616 : Value).ownBlock) (Kd.R_keptB (HO609.out) hkp (fun k_ hk_ hs_ => (hk_.2) hs_)) (fun k_ hk_ => ⟨hk_.1.1.1.1.1.2, hk_.1.1.1.1.2, hk_.1.1.1.2, hk_.1.1.2, fun e_ => Or.elim (ho0.1 k_ e_.symm) (fun hs_ => hk_.2.1 hs_) (fun hn_ => Nat.not_le.2 hk_.2.2 hn_)⟩)); have n5_ := Aside0.mk (Kd.R_mono (ok' := fun k_ => some k_ ≠ (v592 : Value).ownBlock ∧ some k_ ≠ (.slice Ao20 t595.length co20 : Value).ownBlock ∧ some k_ ≠ (.slice Ao17 t599.length co17 : Value).ownBlock ∧ some k_ ≠ (.slice Ao18 t603.length co18 : Value).ownBlock ∧ some k_ ≠ (.slice Ao21 t607.length co21 : Value).ownBlock) ho0 (fun k_ hk_ => ⟨Or.elim hk_ (fun hs_ => fun e_ => (((HO593.out).1 k_ e_.symm).2) hs_) (fun hn_ => (Kd.fresh' (Kd.R_lt (by (with_reducible repeat (first | apply Kd.R_alloc | apply Kd.R_drewN | apply Kd.R_drew)); exact HO593.out)) k_ hn_)), Or.elim hk_ (fun hs_ => fun e_ => (((HO597.out).1 k_ e_.symm).2) hs_) (fun hn_ => (Kd.fresh' (Kd.R_lt (by (with_reducible repeat (first | apply Kd.R_alloc | apply Kd.R_drewN | apply Kd.R_drew)); exact HO597.out)) k_ hn_)), Or.elim hk_ (fun hs_ => fun e_ => (((HO601.out).1 k_ e_.symm).2) hs_) (fun hn_ => (Kd.fresh' (Kd.R_lt (by (with_reducible repeat (first | apply Kd.R_alloc | apply Kd.R_drewN | apply Kd.R_drew)); exact HO601.out)) k_ hn_)), Or.elim hk_ (fun hs_ => fun e_ => (((HO605.out).1 k_ e_.symm).2) hs_) (fun hn_ => (Kd.fresh' (Kd.R_lt (by (with_reducible repeat (first | apply Kd.R_alloc | apply Kd.R_drewN | apply Kd.R_drew)); exact HO605.out)) k_ hn_)), Or.elim hk_ (fun hs_ => fun e_ => (((HO609.out).1 k_ e_.symm).2) hs_) (fun hn_ => (Kd.fresh' (Kd.R_lt (by (with_reducible repeat (first | apply Kd.R_alloc | apply Kd.R_drewN | apply Kd.R_drew)); exact HO609.out)) k_ hn_))⟩)); have n6_ := Aside0.mk (hb); clear HO593; clear HO597; clear HO601; clear HO605; clear HO609; clear HB; clear HO613; have HO593 := n0_; have HO597 := n1_; have HO601 := n2_; have HO605 := n3_; have HO609 := n4_; have HO617 := n5_; have HB := n6_; clear n0_ n1_ n2_ n3_ n4_ n5_ n6_; (try clear hb); (try clear hkp); (try clear ho0); obtain ⟨Ao25, co25, eo25⟩ := Kd.R_slice HO593.out; subst eo25; obtain ⟨Ao26, co26, eo26⟩ := Kd.R_slice HO617.out; subst eo26) | ((with_reducible refine kL (f := 70) rfl ?_); refine goesL_ (some 19) rfl rfl Try.func70 (by kernel_rfl) rfl #[.agg #[.bool t590, .slice Ao25 t591.length co25], .agg #[.bool t614, .slice Ao26 t615.length co26]] rfl (by (try simp only [List.map_toArray, List.map_cons, List.map_nil]); first | done | rfl | (simp only [List.length_drop, List.length_take]; rfl)) ?_; (with_reducible refine (computusref01_Plus.calls k t590 _ _ t591 t614 _ _ t615 t618 t619 _ ?side1 ?side2 ?side3 ?side4 A11.out).mono ?_); (case side1 => repeat (first | exact (Kd.R_reads' HO593.out).2.2 | (with_reducible refine Kd.C_alloc ?_ _) | (with_reducible refine Kd.C_drewN ?_ _) | (with_reducible refine Kd.C_drew ?_))); (case side2 => exact (Kd.R_reads' HO593.out).2.1); (case side3 => repeat (first | exact (Kd.R_reads' HO617.out).2.2 | (with_reducible refine Kd.C_alloc ?_ _) | (with_reducible refine Kd.C_drewN ?_ _) | (with_reducible refine Kd.C_drew ?_))); (case side4 => exact (Kd.R_reads' HO617.out).2.1); rintro e w27 ⟨v620, rfl, ho0, hb⟩; refine ⟨_, rfl, ?_⟩; have n0_ := Aside0.mk (Kd.R_elder' (by (with_reducible repeat (first | apply Kd.R_alloc | apply Kd.R_drewN | apply Kd.R_drew)); exact HO593.out) (Kd.R_base ho0) hb); have n1_ := Aside0.mk (Kd.R_elder' (by (with_reducible repeat (first | apply Kd.R_alloc | apply Kd.R_drewN | apply Kd.R_drew)); exact HO597.out) (Kd.R_base ho0) hb); have n2_ := Aside0.mk (Kd.R_elder' (by (with_reducible repeat (first | apply Kd.R_alloc | apply Kd.R_drewN | apply Kd.R_drew)); exact HO601.out) (Kd.R_base ho0) hb); have n3_ := Aside0.mk (Kd.R_elder' (by (with_reducible repeat (first | apply Kd.R_alloc | apply Kd.R_drewN | apply Kd.R_drew)); exact HO605.out) (Kd.R_base ho0) hb); have n4_ := Aside0.mk (Kd.R_elder' (by (with_reducible repeat (first | apply Kd.R_alloc | apply Kd.R_drewN | apply Kd.R_drew)); exact HO609.out) (Kd.R_base ho0) hb); have n5_ := Aside0.mk (Kd.R_elder' (by (with_reducible repeat (first | apply Kd.R_alloc | apply Kd.R_drewN | apply Kd.R_drew)); exact HO617.out) (Kd.R_base ho0) hb); have n6_ := Aside0.mk (Kd.R_lower (Kd.R_new' (Kd.R_new' (Kd.R_new' (Kd.R_new' (Kd.R_new' (Kd.R_new' ho0 (Kd.R_lt (by (with_reducible repeat (first | apply Kd.R_alloc | apply Kd.R_drewN | apply Kd.R_drew)); exact HO593.out))) (Kd.R_lt (by (with_reducible repeat (first | apply Kd.R_alloc | apply Kd.R_drewN | apply Kd.R_drew)); exact HO597.out))) (Kd.R_lt (by (with_reducible repeat (first | apply Kd.R_alloc | apply Kd.R_drewN | apply Kd.R_drew)); exact HO601.out))) (Kd.R_lt (by (with_reducible repeat (first | apply Kd.R_alloc | apply Kd.R_drewN | apply Kd.R_drew)); exact HO605.out))) (Kd.R_lt (by (with_reducible repeat (first | apply Kd.R_alloc | apply Kd.R_drewN | apply Kd.R_drew)); exact HO609.out))) (Kd.R_lt (by (with_reducible repeat (first | apply Kd.R_alloc | apply Kd.R_drewN | apply Kd.R_drew)); exact HO617.out))) (kK (by repeat (first | (with_reducible first | exact HB.out | apply kG | apply kD | apply kF) | exact HB.out)))); have n7_ := Aside0.mk (kM (by repeat (first | (with_reducible first | exact HB.out | apply kG | apply kD | apply kF) | exact HB.out)) hb); clear HO593; clear HO597; clear HO601; clear HO605; clear HO609; clear HO617; clear HB; have HO593 := n0_; have HO597 := n1_; have HO601 := n2_; have HO605 := n3_; have HO609 := n4_; have HO617 := n5_; have HO621 := n6_; have HB := n7_; clear n0_ n1_ n2_ n3_ n4_ n5_ n6_ n7_; (try clear hb); (try clear hb2); (try clear hk); (try clear hi); (try clear ho0); obtain ⟨Ao28, co28, eo28⟩ := Kd.R_slice HO621.out; subst eo28) | ((with_reducible refine kL (f := 69) rfl ?_); refine goesL_ (some 20) rfl rfl Try.func69 (by kernel_rfl) rfl #[.agg #[.bool t618, .slice Ao28 t619.length co28]] rfl (by (try simp only [List.map_toArray, List.map_cons, List.map_nil]); first | done | rfl | (simp only [List.length_drop, List.length_take]; rfl)) ?_; (with_reducible refine (computusref01_Small.calls k t618 _ _ t619 t622 t623 _ ?side1 ?side2 A12.out).mono ?_); (case side1 => repeat (first | exact (Kd.R_reads' HO621.out).2.2 | (with_reducible refine Kd.C_alloc ?_ _) | (with_reducible refine Kd.C_drewN ?_ _) | (with_reducible refine Kd.C_drew ?_))); (case side2 => exact (Kd.R_reads' HO621.out).2.1); rintro e w29 ⟨rfl, hb⟩; refine ⟨_, rfl, ?_⟩; have n0_ := Aside0.mk (Kd.R_below (by (with_reducible repeat (first | apply Kd.R_alloc | apply Kd.R_drewN | apply Kd.R_drew)); exact HO593.out) hb); have n1_ := Aside0.mk (Kd.R_below (by (with_reducible repeat (first | apply Kd.R_alloc | apply Kd.R_drewN | apply Kd.R_drew)); exact HO597.out) hb); have n2_ := Aside0.mk (Kd.R_below (by (with_reducible repeat (first | apply Kd.R_alloc | apply Kd.R_drewN | apply Kd.R_drew)); exact HO601.out) hb); have n3_ := Aside0.mk (Kd.R_below (by (with_reducible repeat (first | apply Kd.R_alloc | apply Kd.R_drewN | apply Kd.R_drew)); exact HO605.out) hb); have n4_ := Aside0.mk (Kd.R_below (by (with_reducible repeat (first | apply Kd.R_alloc | apply Kd.R_drewN | apply Kd.R_drew)); exact HO609.out) hb); have n5_ := Aside0.mk (Kd.R_below (by (with_reducible repeat (first | apply Kd.R_alloc | apply Kd.R_drewN | apply Kd.R_drew)); exact HO617.out) hb); have n6_ := Aside0.mk (Kd.R_below (by (with_reducible repeat (first | apply Kd.R_alloc | apply Kd.R_drewN | apply Kd.R_drew)); exact HO621.out) hb); have n7_ := Aside0.mk (kM (by repeat (first | (with_reducible first | exact HB.out | apply kG | apply kD | apply kF) | exact HB.out)) hb); clear HO593; clear HO597; clear HO601; clear HO605; clear HO609; clear HO617; clear HO621; clear HB; have HO593 := n0_; have HO597 := n1_; have HO601 := n2_; have HO605 := n3_; have HO609 := n4_; have HO617 := n5_; have HO621 := n6_; have HB := n7_; clear n0_ n1_ n2_ n3_ n4_ n5_ n6_ n7_; (try clear hb); (try clear hb2); (try clear hk); (try clear hi)))
    go_ret2
    exact ⟨by first | rfl | (simp [errW_none, errW_some] <;> rfl) | (simp [*, errW_none, errW_some] <;> rfl), by repeat (first | (with_reducible first | exact HB.out | apply kG | apply kD | apply kF) | exact HB.out)⟩
noncomputable def computusref01_Mod.con (k : Nat) : Con
  | [.int .i64 a0, .int .i64 a1] => some ((computusref01_Mod.f k a0 a1).isSome, .tup [.int .i64 (gd (computusref01_Mod.f k a0 a1)).1, .int .i64 (gd (computusref01_Mod.f k a0 a1)).2])
  | _ => none
set_option maxRecDepth 100000 in
theorem computusref01_Mod.cok (k : Nat) : COk Try.prog 77 (computusref01_Mod.con k) := by
  intro args p v hc hp w A hA
  unfold computusref01_Mod.con at hc
  split at hc
  · rename_i a0 a1
    simp only [Option.some.injEq, Prod.mk.injEq] at hc
    obtain ⟨rfl, rfl⟩ := hc
    rcases hf : computusref01_Mod.f k a0 a1 with _ | ⟨r1, r2⟩
    · rw [hf] at hp; cases hp
    obtain rfl : A = [.int .i64 a0, .int .i64 a1] := by simpa [rl_cons, rl_nil, rv_int, rv_bool, rv_str, rv_agg, rv_fn] using hA
    exact gives_of_calls (fn := Try.f77) Try.func77 (by kernel_rfl) (by kernel_rfl) (computusref01_Mod.calls _ _ _ _ _ w hf) (fun _ => by simp [gd_some, rl_cons, rl_nil, rv_int, rv_bool, rv_str, rv_agg, rv_tup]) (fun _ h => h)
  · cases hc
def computusref01_Split.f (k : Nat) (a0 : Int) : Option (Int × Int) := (computusref01_Div.f k a0 86400000000).bind fun bt624 => ((computusref01_Mod.f k a0 86400000000).bind fun bt626 => (some (bt624.1, bt626.1)))
set_option maxRecDepth 100000 in
theorem computusref01_Split.vc (k : Nat) (a0 : Int) (K : AV → Prop) : afv PA Try.prog (tab [(76, computusref01_Div.con k), (77, computusref01_Mod.con k)]) noLoops 2 53 [.int .i64 a0] K = (brc (Option.isSome (computusref01_Div.f k a0 86400000000)) (∀ (m0 : Int), m0 = Prod.fst (gd (computusref01_Div.f k a0 86400000000)) → ∀ (m1 : Int), m1 = Prod.snd (gd (computusref01_Div.f k a0 86400000000)) → brc (Option.isSome (computusref01_Mod.f k a0 86400000000)) (∀ (m2 : Int), m2 = Prod.fst (gd (computusref01_Mod.f k a0 86400000000)) → ∀ (m3 : Int), m3 = Prod.snd (gd (computusref01_Mod.f k a0 86400000000)) → K (AV.tup [AV.int IntKind.i64 m0, AV.int IntKind.i64 m2])) False) False) := by kernel_rfl
set_option maxHeartbeats 1000000 in
set_option maxRecDepth 100000 in
theorem computusref01_Split.calls (k : Nat) (a0 : Int) (r1 : Int) (r2 : Int) (w : World) (h : computusref01_Split.f k a0 = some (r1, r2)) :
    Calls Try.prog 53 #[.int .i64 a0] w fun e w' => e = .returned (.tuple #[.int .i64 r1, .int .i64 r2]) ∧ Below w.heap.size w w' := by
  refine calls_of_vc (A := [.int .i64 a0]) (v := .tup [.int .i64 r1, .int .i64 r2]) (tab_cons (computusref01_Div.cok k) (tab_cons (computusref01_Mod.cok k) (tab_nil))) ((computusref01_Split.vc k a0 _).mpr ?_) (by simp [rl_cons, rl_nil, rv_int, rv_bool, rv_str, rv_agg, rv_fn]) (fun ρ V' hV => by simpa [rl_cons, rl_nil, rv_int, rv_bool, rv_str, rv_agg, rv_tup] using hV)
  unfold computusref01_Split.f at h
  simp only [bne, Option.bind_eq_some_iff, ite_some_iff] at h
  simp only [bne, brc_iff, wrap_i64]
  first
    | grind (splits := 60) [gd_some]
    | ((repeat' (first | (have or_ : Or _ _ := h; clear or_; rcases h with h | h) | (have or_ : Exists _ := h; clear or_; obtain ⟨_, h⟩ := h) | (have or_ : And _ _ := h; clear or_; obtain ⟨_, h⟩ := h))) <;> simp only [Option.some.injEq, Prod.mk.injEq, reduceCtorEq] at h <;> (try subst_vars) <;> simp_all [gd_some] <;> (try omega) <;> done)
    | (intros; subst_vars; simp_all [gd_some]; done)
noncomputable def computusref01_Split.con (k : Nat) : Con
  | [.int .i64 a0] => some ((computusref01_Split.f k a0).isSome, .tup [.int .i64 (gd (computusref01_Split.f k a0)).1, .int .i64 (gd (computusref01_Split.f k a0)).2])
  | _ => none
set_option maxRecDepth 100000 in
theorem computusref01_Split.cok (k : Nat) : COk Try.prog 53 (computusref01_Split.con k) := by
  intro args p v hc hp w A hA
  unfold computusref01_Split.con at hc
  split at hc
  · rename_i a0
    simp only [Option.some.injEq, Prod.mk.injEq] at hc
    obtain ⟨rfl, rfl⟩ := hc
    rcases hf : computusref01_Split.f k a0 with _ | ⟨r1, r2⟩
    · rw [hf] at hp; cases hp
    obtain rfl : A = [.int .i64 a0] := by simpa [rl_cons, rl_nil, rv_int, rv_bool, rv_str, rv_agg, rv_fn] using hA
    exact gives_of_calls (fn := Try.f53) Try.func53 (by kernel_rfl) (by kernel_rfl) (computusref01_Split.calls _ _ _ _ w hf) (fun _ => by simp [gd_some, rl_cons, rl_nil, rv_int, rv_bool, rv_str, rv_agg, rv_tup]) (fun _ h => h)
  · cases hc
def computusref15_RightStamp.f (k : Nat) (a0_0 : Int) (a0_1 : Int) : Option (Bool) := if a0_0 = 0 then ((computusref01_Split.f k a0_1).bind fun bt629 => ((computusref15_inside.f k bt629.1).bind fun t631 => (some t631))) else (if a0_0 = (-1) then (some (a0_1 == 0)) else (if a0_0 = 1 then (some (a0_1 == 0)) else (some false)))
set_option maxRecDepth 100000 in
theorem computusref15_RightStamp.vc (k : Nat) (a0_0 : Int) (a0_1 : Int) (K : AV → Prop) : afv PA Try.prog (tab [(37, computusref15_inside.con k), (53, computusref01_Split.con k)]) noLoops 2 32 [.agg [.int .i64 a0_0, .int .i64 a0_1]] K = (brc (a0_0 == 0) (brc (Option.isSome (computusref01_Split.f k a0_1)) (∀ (m0 : Int), m0 = Prod.fst (gd (computusref01_Split.f k a0_1)) → ∀ (m1 : Int), m1 = Prod.snd (gd (computusref01_Split.f k a0_1)) → brc (Option.isSome (computusref15_inside.f k m0)) (∀ (m2 : Bool), m2 = gd (computusref15_inside.f k m0) → K (AV.bool m2)) False) False) (brc (a0_0 == -1) (K (AV.bool (a0_1 == 0))) (brc (a0_0 == 1) (K (AV.bool (a0_1 == 0))) (K (AV.bool false))))) := by kernel_rfl
set_option maxHeartbeats 1000000 in
set_option maxRecDepth 100000 in
theorem computusref15_RightStamp.calls (k : Nat) (a0_0 : Int) (a0_1 : Int) (r : Bool) (w : World) (h : computusref15_RightStamp.f k a0_0 a0_1 = some r) :
    Calls Try.prog 32 #[.agg #[.int .i64 a0_0, .int .i64 a0_1]] w fun e w' => e = .returned (.bool r) ∧ Below w.heap.size w w' := by
  refine calls_of_vc (A := [.agg #[.int .i64 a0_0, .int .i64 a0_1]]) (v := .bool r) (tab_cons (computusref15_inside.cok k) (tab_cons (computusref01_Split.cok k) (tab_nil))) ((computusref15_RightStamp.vc k a0_0 a0_1 _).mpr ?_) (by simp [rl_cons, rl_nil, rv_int, rv_bool, rv_str, rv_agg, rv_fn]) (fun ρ V' hV => by simpa [rl_cons, rl_nil, rv_int, rv_bool, rv_str, rv_agg, rv_tup] using hV)
  unfold computusref15_RightStamp.f at h
  simp only [bne, Option.bind_eq_some_iff, ite_some_iff] at h
  simp only [bne, brc_iff, wrap_i64]
  first
    | grind (splits := 60) [gd_some]
    | ((repeat' (first | (have or_ : Or _ _ := h; clear or_; rcases h with h | h) | (have or_ : Exists _ := h; clear or_; obtain ⟨_, h⟩ := h) | (have or_ : And _ _ := h; clear or_; obtain ⟨_, h⟩ := h))) <;> simp only [Option.some.injEq, Prod.mk.injEq, reduceCtorEq] at h <;> (try subst_vars) <;> simp_all [gd_some] <;> (try omega) <;> done)
    | (intros; subst_vars; simp_all [gd_some]; done)
noncomputable def computusref15_RightStamp.con (k : Nat) : Con
  | [.agg [.int .i64 a0_0, .int .i64 a0_1]] => some ((computusref15_RightStamp.f k a0_0 a0_1).isSome, .bool (gd (computusref15_RightStamp.f k a0_0 a0_1)))
  | _ => none
set_option maxRecDepth 100000 in
theorem computusref15_RightStamp.cok (k : Nat) : COk Try.prog 32 (computusref15_RightStamp.con k) := by
  intro args p v hc hp w A hA
  unfold computusref15_RightStamp.con at hc
  split at hc
  · rename_i a0_0 a0_1
    simp only [Option.some.injEq, Prod.mk.injEq] at hc
    obtain ⟨rfl, rfl⟩ := hc
    rcases hf : computusref15_RightStamp.f k a0_0 a0_1 with _ | r
    · rw [hf] at hp; cases hp
    obtain rfl : A = [.agg #[.int .i64 a0_0, .int .i64 a0_1]] := by simpa [rl_cons, rl_nil, rv_int, rv_bool, rv_str, rv_agg, rv_fn] using hA
    exact gives_of_calls (fn := Try.f32) Try.func32 (by kernel_rfl) (by kernel_rfl) (computusref15_RightStamp.calls _ _ _ _ w hf) (fun _ => by simp [gd_some, rl_cons, rl_nil, rv_int, rv_bool, rv_str, rv_agg, rv_tup]) (fun _ h => h)
  · cases hc
def computusref15_Of.f (k : Nat) (a0_0 : Int) (a0_1 : Int) : Option (Int × Int × Int × Int) := (computusref15_RightStamp.f k a0_0 a0_1).bind fun t634 => (if t634 = true then (if a0_0 = 0 then ((computusref01_Split.f k a0_1).bind fun bt635 => (some (0, bt635.1, bt635.2, 0))) else (some (a0_0, 0, 0, 0))) else (some (0, 0, 0, 1)))
set_option maxRecDepth 100000 in
theorem computusref15_Of.vc (k : Nat) (a0_0 : Int) (a0_1 : Int) (K : AV → Prop) : afv PA Try.prog (tab [(32, computusref15_RightStamp.con k), (53, computusref01_Split.con k)]) noLoops 2 30 [.agg [.int .i64 a0_0, .int .i64 a0_1]] K = (brc (Option.isSome (computusref15_RightStamp.f k a0_0 a0_1)) (∀ (m0 : Bool), m0 = gd (computusref15_RightStamp.f k a0_0 a0_1) → brc (!m0) (K (AV.tup [AV.agg [AV.int IntKind.i64 0, AV.int IntKind.i64 0], AV.int IntKind.i64 0, AV.int IntKind.i64 1])) (brc (a0_0 != 0) (K (AV.tup [AV.agg [AV.int IntKind.i64 a0_0, AV.int IntKind.i64 0], AV.int IntKind.i64 0, AV.int IntKind.i64 0])) (brc (Option.isSome (computusref01_Split.f k a0_1)) (∀ (m1 : Int), m1 = Prod.fst (gd (computusref01_Split.f k a0_1)) → ∀ (m2 : Int), m2 = Prod.snd (gd (computusref01_Split.f k a0_1)) → K (AV.tup [AV.agg [AV.int IntKind.i64 0, AV.int IntKind.i64 m1], AV.int IntKind.i64 m2, AV.int IntKind.i64 0])) False))) False) := by kernel_rfl
set_option maxHeartbeats 1000000 in
set_option maxRecDepth 100000 in
theorem computusref15_Of.calls (k : Nat) (a0_0 : Int) (a0_1 : Int) (r1 : Int) (r2 : Int) (r3 : Int) (r4 : Int) (w : World) (h : computusref15_Of.f k a0_0 a0_1 = some (r1, r2, r3, r4)) :
    Calls Try.prog 30 #[.agg #[.int .i64 a0_0, .int .i64 a0_1]] w fun e w' => e = .returned (.tuple #[.agg #[.int .i64 r1, .int .i64 r2], .int .i64 r3, .int .i64 r4]) ∧ Below w.heap.size w w' := by
  refine calls_of_vc (A := [.agg #[.int .i64 a0_0, .int .i64 a0_1]]) (v := .tup [.agg [.int .i64 r1, .int .i64 r2], .int .i64 r3, .int .i64 r4]) (tab_cons (computusref15_RightStamp.cok k) (tab_cons (computusref01_Split.cok k) (tab_nil))) ((computusref15_Of.vc k a0_0 a0_1 _).mpr ?_) (by simp [rl_cons, rl_nil, rv_int, rv_bool, rv_str, rv_agg, rv_fn]) (fun ρ V' hV => by simpa [rl_cons, rl_nil, rv_int, rv_bool, rv_str, rv_agg, rv_tup] using hV)
  unfold computusref15_Of.f at h
  simp only [bne, Option.bind_eq_some_iff, ite_some_iff] at h
  simp only [bne, brc_iff, wrap_i64]
  first
    | grind (splits := 60) [gd_some]
    | ((repeat' (first | (have or_ : Or _ _ := h; clear or_; rcases h with h | h) | (have or_ : Exists _ := h; clear or_; obtain ⟨_, h⟩ := h) | (have or_ : And _ _ := h; clear or_; obtain ⟨_, h⟩ := h))) <;> simp only [Option.some.injEq, Prod.mk.injEq, reduceCtorEq] at h <;> (try subst_vars) <;> simp_all [gd_some] <;> (try omega) <;> done)
    | (intros; subst_vars; simp_all [gd_some]; done)
end Go.Proofs.Ytgjbdojpncmmlaa.P
namespace Go.Proofs.Ytgjbdojpncmmlaa.P
open Go.RowKit Go.Proofs.YtgjbdojpncmmlaaW.PrintWords Go.Proofs.YtgjbdojpncmmlaaW.PrintLast Go.Proofs.YtgjbdojpncmmlaaW.PrintMore
open Go.Proofs.Ytgjbdojpncmmlaa.A
attribute [local go_sem] max2_int min2_int max_two min_two max_three min_three max_four min_four   -- for this text's walks alone
set_option linter.unusedVariables false
set_option linter.unusedSimpArgs false
def computusref15_order.j0 : Nat → Int → Int → Int → Int → Bool → Option (Int)
  | 0, _, _, _, _, _ => none
  | k + 1, x0, x1, x2, x3, x21 => if x21 = true then (some (-1)) else (if x0 > x1 then (some 1) else (if x2 > x3 then (some 1) else (some 0)))
def computusref15_order.f (k : Nat) (a0 : Int) (a1 : Int) (a2 : Int) (a3 : Int) : Option (Int) := if a0 < a1 then (computusref15_order.j0 k a0 a1 a2 a3 true) else (if a0 = a1 then (computusref15_order.j0 k a0 a1 a2 a3 (decide (a2 < a3))) else (computusref15_order.j0 k a0 a1 a2 a3 false))
set_option maxHeartbeats 8000000 in
set_option maxRecDepth 100000 in
theorem computusref15_order.calls (k : Nat) (a0 : Int) (a1 : Int) (a2 : Int) (a3 : Int) (r : Int) (w : World) (h : computusref15_order.f k a0 a1 a2 a3 = some r) :
    Calls Try.prog 51 #[.int .i64 a0, .int .i64 a1, .int .i64 a2, .int .i64 a3] w fun e w' => e = .returned (.int .i64 r) ∧ Drawn0 w w' := by
  have H : (if a0 < a1 then (computusref15_order.j0 k a0 a1 a2 a3 true) else (if a0 = a1 then (computusref15_order.j0 k a0 a1 a2 a3 (decide (a2 < a3))) else (computusref15_order.j0 k a0 a1 a2 a3 false))) = some r := h
  clear h
  have HC5 := Aside0.mk H
  clear H
  go_enter Try.func51, Try.ntmps51
  go_upto_region 1 with (fail)
  go_cut [21] (fun v21 wc => ∃ (kq : Nat) (x21_4 : Bool), v21 = .bool x21_4 ∧ Aside0 (computusref15_order.j0 kq a0 a1 a2 a3 x21_4 = some r) ∧ Aside0 (kq ≤ k) ∧ Drawn0 w wc)
  case first =>
    have H := HC5.out
    clear HC5
    by_cases c6 : a0 < a1
    · rw [if_pos c6] at H
      have c6b0 : decide (a0 < a1) = true := decide_eq_true c6
      clear c6
      (first | rw [c6b0] | (simp only [kN, kO]; rw [c6b0]) | skip)
      have H' := Aside0.mk H
      clear H
      go_wp2
      go_meet
      case rel => exact ⟨_, (true), (by first | rfl | (simp; done) | (simp [*]; done)), H', ⟨by first | omega | exact Nat.le_refl _⟩, by repeat (first | exact Drawn0.refl _ | apply Drawn0.step)⟩
    · rw [if_neg c6] at H
      have c6b0 : decide (a0 < a1) = false := decide_eq_false c6
      clear c6
      (first | rw [c6b0] | (simp only [kN, kO]; rw [c6b0]) | skip)
      by_cases c7 : a0 = a1
      · rw [if_pos c7] at H
        have c7b0 : (a0 == a1) = true := beq_iff_eq.mpr c7
        have c7b1 : (a0 != a1) = false := bne_eq_false_iff_eq.mpr c7
        clear c7
        have H' := Aside0.mk H
        clear H
        go_wp2
        go_meet
        case rel => exact ⟨_, (decide (a2 < a3)), (by first | rfl | (simp; done) | (simp [*]; done)), H', ⟨by first | omega | exact Nat.le_refl _⟩, by repeat (first | exact Drawn0.refl _ | apply Drawn0.step)⟩
      · rw [if_neg c7] at H
        have c7b0 : (a0 == a1) = false := beq_eq_false_iff_ne.mpr c7
        have c7b1 : (a0 != a1) = true := bne_iff_ne.mpr c7
        have H' := Aside0.mk H
        clear H
        go_wp2
        go_meet
        case rel => exact ⟨_, (false), (by first | rfl | (simp; done) | (simp [*]; done)), H', ⟨by first | omega | exact Nat.le_refl _⟩, by repeat (first | exact Drawn0.refl _ | apply Drawn0.step)⟩
  case rest =>
    clear HC5
    try clear p2
    try clear c5
    try clear c6
    try clear c6b0
    try clear c7
    try clear c7b0
    try clear c7b1
    obtain ⟨kq, x21_4, rfl, HA, HJ4, ⟨mc4, rfl⟩⟩ := hcut
    cases kq with
    | zero => exact absurd HA.out (by simp [computusref15_order.j0])
    | succ kj4 =>
      have H := HA.out
      clear HA
      simp only [computusref15_order.j0] at H
      by_cases c8 : x21_4 = true
      · subst c8
        have H1 : (some (-1)) = some r := by rw [if_pos rfl] at H; exact H
        clear H
        have H := H1
        clear H1
        obtain rfl := Option.some.inj H
        go_wp2
        go_ret
        exact ⟨by first | rfl | (simp; done) | (simp [*]; done), by repeat (first | exact Drawn0.refl _ | apply Drawn0.step)⟩
      · replace c8 := Bool.eq_false_iff.mpr c8
        subst c8
        have H1 : (if a0 > a1 then (some 1) else (if a2 > a3 then (some 1) else (some 0))) = some r := by rw [if_neg (show ¬ (false = true) by decide)] at H; exact H
        clear H
        have H := H1
        clear H1
        by_cases c9 : a0 > a1
        · rw [if_pos c9] at H
          have c9b0 : decide (a1 < a0) = true := decide_eq_true c9
          clear c9
          obtain rfl := Option.some.inj H
          go_wp2
          go_ret
          exact ⟨by first | rfl | (simp; done) | (simp [*]; done), by repeat (first | exact Drawn0.refl _ | apply Drawn0.step)⟩
        · rw [if_neg c9] at H
          have c9b0 : decide (a1 < a0) = false := decide_eq_false c9
          clear c9
          by_cases c10 : a2 > a3
          · rw [if_pos c10] at H
            have c10b0 : decide (a3 < a2) = true := decide_eq_true c10
            clear c10
            obtain rfl := Option.some.inj H
            go_wp2
            go_ret
            exact ⟨by first | rfl | (simp; done) | (simp [*]; done), by repeat (first | exact Drawn0.refl _ | apply Drawn0.step)⟩
          · rw [if_neg c10] at H
            have c10b0 : decide (a3 < a2) = false := decide_eq_false c10
            clear c10
            obtain rfl := Option.some.inj H
            go_wp2
            go_ret
            exact ⟨by first | rfl | (simp; done) | (simp [*]; done), by repeat (first | exact Drawn0.refl _ | apply Drawn0.step)⟩
noncomputable def computusref15_order.con (k : Nat) : Con
  | [.int .i64 a0, .int .i64 a1, .int .i64 a2, .int .i64 a3] => some ((computusref15_order.f k a0 a1 a2 a3).isSome, .int .i64 (gd (computusref15_order.f k a0 a1 a2 a3)))
  | _ => none
set_option maxRecDepth 100000 in
theorem computusref15_order.cok (k : Nat) : COk Try.prog 51 (computusref15_order.con k) := by
  intro args p v hc hp w A hA
  unfold computusref15_order.con at hc
  split at hc
  · rename_i a0 a1 a2 a3
    simp only [Option.some.injEq, Prod.mk.injEq] at hc
    obtain ⟨rfl, rfl⟩ := hc
    rcases hf : computusref15_order.f k a0 a1 a2 a3 with _ | r
    · rw [hf] at hp; cases hp
    obtain rfl : A = [.int .i64 a0, .int .i64 a1, .int .i64 a2, .int .i64 a3] := by simpa [rl_cons, rl_nil, rv_int, rv_bool, rv_str, rv_agg, rv_fn] using hA
    exact gives_of_calls (fn := Try.f51) Try.func51 (by kernel_rfl) (by kernel_rfl) (computusref15_order.calls _ _ _ _ _ _ w hf) (fun _ => by simp [gd_some, rl_cons, rl_nil, rv_int, rv_bool, rv_str, rv_agg, rv_tup]) (fun _ h => h.below)
  · cases hc
end Go.Proofs.Ytgjbdojpncmmlaa.P
namespace Go.Proofs.Ytgjbdojpncmmlaa.P
open Go.RowKit Go.Proofs.YtgjbdojpncmmlaaW.PrintWords Go.Proofs.YtgjbdojpncmmlaaW.PrintLast Go.Proofs.YtgjbdojpncmmlaaW.PrintMore
open Go.Proofs.Ytgjbdojpncmmlaa.A
attribute [local go_sem] max2_int min2_int max_two min_two max_three min_three max_four min_four   -- for this text's walks alone
set_option linter.unusedVariables false
set_option linter.unusedSimpArgs false
def computusref15_CmpStamp.f (k : Nat) (a0_0 : Int) (a0_1 : Int) (a1_0 : Int) (a1_1 : Int) : Option (Int) := (computusref15_RightStamp.f k a0_0 a0_1).bind fun t639 => (if t639 = true then ((computusref15_RightStamp.f k a1_0 a1_1).bind fun t640 => (if t640 = true then ((computusref15_order.f k a0_0 a1_0 a0_1 a1_1).bind fun t641 => (some t641)) else (some 0))) else (some 0))
set_option maxRecDepth 100000 in
theorem computusref15_CmpStamp.vc (k : Nat) (a0_0 : Int) (a0_1 : Int) (a1_0 : Int) (a1_1 : Int) (K : AV → Prop) : afv PA Try.prog (tab [(32, computusref15_RightStamp.con k), (51, computusref15_order.con k)]) noLoops 2 33 [.agg [.int .i64 a0_0, .int .i64 a0_1], .agg [.int .i64 a1_0, .int .i64 a1_1]] K = (brc (Option.isSome (computusref15_RightStamp.f k a0_0 a0_1)) (∀ (m0 : Bool), m0 = gd (computusref15_RightStamp.f k a0_0 a0_1) → brc (!m0) (K (AV.int IntKind.i64 0)) (brc (Option.isSome (computusref15_RightStamp.f k a1_0 a1_1)) (∀ (m1 : Bool), m1 = gd (computusref15_RightStamp.f k a1_0 a1_1) → brc (!m1) (K (AV.int IntKind.i64 0)) (brc (Option.isSome (computusref15_order.f k a0_0 a1_0 a0_1 a1_1)) (∀ (m2 : Int), m2 = gd (computusref15_order.f k a0_0 a1_0 a0_1 a1_1) → K (AV.int IntKind.i64 m2)) False)) False)) False) := by kernel_rfl
set_option maxHeartbeats 1000000 in
set_option maxRecDepth 100000 in
theorem computusref15_CmpStamp.calls (k : Nat) (a0_0 : Int) (a0_1 : Int) (a1_0 : Int) (a1_1 : Int) (r : Int) (w : World) (h : computusref15_CmpStamp.f k a0_0 a0_1 a1_0 a1_1 = some r) :
    Calls Try.prog 33 #[.agg #[.int .i64 a0_0, .int .i64 a0_1], .agg #[.int .i64 a1_0, .int .i64 a1_1]] w fun e w' => e = .returned (.int .i64 r) ∧ Below w.heap.size w w' := by
  refine calls_of_vc (A := [.agg #[.int .i64 a0_0, .int .i64 a0_1], .agg #[.int .i64 a1_0, .int .i64 a1_1]]) (v := .int .i64 r) (tab_cons (computusref15_RightStamp.cok k) (tab_cons (computusref15_order.cok k) (tab_nil))) ((computusref15_CmpStamp.vc k a0_0 a0_1 a1_0 a1_1 _).mpr ?_) (by simp [rl_cons, rl_nil, rv_int, rv_bool, rv_str, rv_agg, rv_fn]) (fun ρ V' hV => by simpa [rl_cons, rl_nil, rv_int, rv_bool, rv_str, rv_agg, rv_tup] using hV)
  unfold computusref15_CmpStamp.f at h
  simp only [bne, Option.bind_eq_some_iff, ite_some_iff] at h
  simp only [bne, brc_iff, wrap_i64]
  first
    | grind (splits := 60) [gd_some]
    | ((repeat' (first | (have or_ : Or _ _ := h; clear or_; rcases h with h | h) | (have or_ : Exists _ := h; clear or_; obtain ⟨_, h⟩ := h) | (have or_ : And _ _ := h; clear or_; obtain ⟨_, h⟩ := h))) <;> simp only [Option.some.injEq, Prod.mk.injEq, reduceCtorEq] at h <;> (try subst_vars) <;> simp_all [gd_some] <;> (try omega) <;> done)
    | (intros; subst_vars; simp_all [gd_some]; done)
end Go.Proofs.Ytgjbdojpncmmlaa.P
