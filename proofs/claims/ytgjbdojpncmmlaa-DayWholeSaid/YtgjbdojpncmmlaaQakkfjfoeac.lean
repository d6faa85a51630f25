-- Written by a program of the session (a print of the seat's translation, functions given by hand among it). Lean checks it.
import Derived.Test.YtgjbdojpncmmlaaQkegnhodiek
import Derived.Test.YtgjbdojpncmmlaaQbbpjcjfchn
import Derived.Test.YtgjbdojpncmmlaaQdbmconcjmc
import Derived.Test.YtgjbdojpncmmlaaQommogdbmpj
namespace Go.Proofs.Ytgjbdojpncmmlaa.P
open Go.RowKit Go.Proofs.YtgjbdojpncmmlaaW.PrintWords Go.Proofs.YtgjbdojpncmmlaaW.PrintLast Go.Proofs.YtgjbdojpncmmlaaW.PrintMore
attribute [local go_sem] max2_int min2_int max_two min_two max_three min_three max_four min_four   -- for this text's walks alone
set_option linter.unusedVariables false
set_option linter.unusedSimpArgs false
def computusref01_Div.f (k : Nat) (a0 : Int) (a1 : Int) : Option (Int × Int) := if a1 = 0 then (some (0, 11)) else ((computusref01_Of.f a0).bind fun bt557 => ((computusref01_Of.f a1).bind fun bt561 => ((computusref01_Over.f k bt557.1 bt557.2 bt561.1 bt561.2).bind fun bt565 => ((computusref01_Small.f k bt565.1 bt565.2).bind fun bt569 => (some (bt569.1, bt569.2))))))
set_option maxHeartbeats 8000000 in
set_option maxRecDepth 100000 in
theorem computusref01_Div.calls (k : Nat) (a0 : Int) (a1 : Int) (r1 : Int) (r2 : Int) (w : World) (h : computusref01_Div.f k a0 a1 = some (r1, r2)) :
    Calls Try.prog 76 #[.int .i64 a0, .int .i64 a1] w fun e w' => e = .returned (.tuple #[.int .i64 r1, .int .i64 r2]) ∧ Below w.heap.size w w' := by
  have HB := Aside0.mk (Below.refl w.heap.size w)
  have H : (if a1 = 0 then (some (0, 11)) else ((computusref01_Of.f a0).bind fun bt557 => ((computusref01_Of.f a1).bind fun bt561 => ((computusref01_Over.f k bt557.1 bt557.2 bt561.1 bt561.2).bind fun bt565 => ((computusref01_Small.f k bt565.1 bt565.2).bind fun bt569 => (some (bt569.1, bt569.2))))))) = some (r1, r2) := h
  clear h
  by_cases c3 : a1 = 0
  · rw [if_pos c3] at H
    have c3b0 : (a1 == 0) = true := beq_iff_eq.mpr c3
    have c3b1 : (a1 != 0) = false := bne_eq_false_iff_eq.mpr c3
    clear c3
    simp only [Option.some.injEq, Prod.mk.injEq] at H
    obtain ⟨rfl, rfl⟩ := H
    go_enter Try.func76, Try.ntmps76
    go_wp2
    go_ret2
    exact ⟨by first | rfl | (simp [errW_none, errW_some] <;> rfl) | (simp [*, errW_none, errW_some] <;> rfl), by repeat (first | (with_reducible first | exact HB.out | apply kC | apply kA | apply kB) | exact HB.out)⟩
  · rw [if_neg c3] at H
    have c3b0 : (a1 == 0) = false := beq_eq_false_iff_ne.mpr c3
    have c3b1 : (a1 != 0) = true := bne_iff_ne.mpr c3
    replace H := Option.bind_eq_some_iff.mp H
    obtain ⟨⟨t557, t558⟩, A40, H⟩ := H
    replace H : ((computusref01_Of.f a1).bind fun bt561 => ((computusref01_Over.f k t557 t558 bt561.1 bt561.2).bind fun bt565 => ((computusref01_Small.f k bt565.1 bt565.2).bind fun bt569 => (some (bt569.1, bt569.2))))) = some (r1, r2) := H
    have A4 := Aside0.mk A40
    clear A40
    replace H := Option.bind_eq_some_iff.mp H
    obtain ⟨⟨t561, t562⟩, A50, H⟩ := H
    replace H : ((computusref01_Over.f k t557 t558 t561 t562).bind fun bt565 => ((computusref01_Small.f k bt565.1 bt565.2).bind fun bt569 => (some (bt569.1, bt569.2)))) = some (r1, r2) := H
    have A5 := Aside0.mk A50
    clear A50
    replace H := Option.bind_eq_some_iff.mp H
    obtain ⟨⟨t565, t566⟩, A60, H⟩ := H
    replace H : ((computusref01_Small.f k t565 t566).bind fun bt569 => (some (bt569.1, bt569.2))) = some (r1, r2) := H
    have A6 := Aside0.mk A60
    clear A60
    replace H := Option.bind_eq_some_iff.mp H
    obtain ⟨⟨t569, t570⟩, A70, H⟩ := H
    replace H : (some (t569, t570)) = some (r1, r2) := H
    have A7 := Aside0.mk A70
    clear A70
    simp only [Option.some.injEq, Prod.mk.injEq] at H
    obtain ⟨rfl, rfl⟩ := H
    go_enter Try.func76, Try.ntmps76
    go_wp2_with (first | ((with_reducible refine kL (f := 71) rfl ?_); refine kO (some 9) rfl rfl Try.func71 (by kernel_rfl) rfl #[.int .i64 a0] rfl (by (try simp only [List.map_toArray, List.map_cons, List.map_nil]); first | done | rfl | (simp only [List.length_drop, List.length_take]; rfl)) ?_; (with_reducible refine (computusref01_Of.calls a0 t557 t558 _ A4.out).mono ?_); rintro e w8 ⟨v559, rfl, ho0, hb⟩; refine ⟨_, rfl, ?_⟩; have n0_ := Aside0.mk (Kd.R_lower ho0 (kJ (by repeat (first | (with_reducible first | exact HB.out | apply kC | apply kA | apply kB) | exact HB.out)))); have n1_ := Aside0.mk (kK (by repeat (first | (with_reducible first | exact HB.out | apply kC | apply kA | apply kB) | exact HB.out)) hb); clear HB; have HO560 := n0_; have HB := n1_; clear n0_ n1_; (try clear hb); (try clear hb2); (try clear hk); (try clear hi); (try clear ho0)) | ((with_reducible refine kL (f := 71) rfl ?_); refine kO (some 11) rfl rfl Try.func71 (by kernel_rfl) rfl #[.int .i64 a1] rfl (by (try simp only [List.map_toArray, List.map_cons, List.map_nil]); first | done | rfl | (simp only [List.length_drop, List.length_take]; rfl)) ?_; (with_reducible refine (computusref01_Of.calls a1 t561 t562 _ A5.out).mono ?_); rintro e w9 ⟨v563, rfl, ho0, hb⟩; refine ⟨_, rfl, ?_⟩; have n0_ := Aside0.mk (Kd.R_elder' (by (with_reducible repeat (first | apply Kd.R_alloc | apply Kd.R_drewN | apply Kd.R_drew)); exact HO560.out) (Kd.R_base ho0) hb); have n1_ := Aside0.mk (Kd.R_lower (Kd.R_new' ho0 (Kd.R_lt (by (with_reducible repeat (first | apply Kd.R_alloc | apply Kd.R_drewN | apply Kd.R_drew)); exact HO560.out))) (kJ (by repeat (first | (with_reducible first | exact HB.out | apply kC | apply kA | apply kB) | exact HB.out)))); have n2_ := Aside0.mk (kK (by repeat (first | (with_reducible first | exact HB.out | apply kC | apply kA | apply kB) | exact HB.out)) hb); clear HO560; clear HB; have HO560 := n0_; have HO564 := n1_; have HB := n2_; clear n0_ n1_ n2_; (try clear hb); (try clear hb2); (try clear hk); (try clear hi); (try clear ho0); obtain ⟨Ao10, co10, eo10⟩ := Kd.R_slice HO560.out; subst eo10; obtain ⟨Ao11, co11, eo11⟩ := Kd.R_slice HO564.out; subst eo11) | ((with_reducible refine kL (f := 90) rfl ?_); refine kO (some 12) rfl rfl Try.func90 (by kernel_rfl) rfl #[.agg #[.bool t557, .slice Ao10 t558.length co10], .agg #[.bool t561, .slice Ao11 t562.length co11]] rfl (by (try simp only [List.map_toArray, List.map_cons, List.map_nil]); first | done | rfl | (simp only [List.length_drop, List.length_take]; rfl)) ?_; (with_reducible refine (computusref01_Over.calls k t557 _ _ t558 t561 _ _ t562 t565 t566 _ ?side1 ?side2 ?side3 ?side4 A6.out).mono ?_); (case side1 => repeat (first | exact (Kd.R_reads' HO560.out).2.2 | (with_reducible refine Kd.C_alloc ?_ _) | (with_reducible refine Kd.C_drewN ?_ _) | (with_reducible refine Kd.C_drew ?_))); (case side2 => exact (Kd.R_reads' HO560.out).2.1); (case side3 => repeat (first | exact (Kd.R_reads' HO564.out).2.2 | (with_reducible refine Kd.C_alloc ?_ _) | (with_reducible refine Kd.C_drewN ?_ _) | (with_reducible refine Kd.C_drew ?_))); (case side4 => exact (Kd.R_reads' HO564.out).2.1); rintro e w12 ⟨v567, rfl, ho0, hb⟩; refine ⟨_, rfl, ?_⟩; have n0_ := Aside0.mk (Kd.R_elder' (by (with_reducible repeat (first | apply Kd.R_alloc | apply Kd.R_drewN | apply Kd.R_drew)); exact HO560.out) (Kd.R_base ho0) hb); have n1_ := Aside0.mk (Kd.R_elder' (by (with_reducible repeat (first | apply Kd.R_alloc | apply Kd.R_drewN | apply Kd.R_drew)); exact HO564.out) (Kd.R_base ho0) hb); have n2_ := Aside0.mk (Kd.R_lower (Kd.R_new' (Kd.R_new' ho0 (Kd.R_lt (by (with_reducible repeat (first | apply Kd.R_alloc | apply Kd.R_drewN | apply Kd.R_drew)); exact HO560.out))) (Kd.R_lt (by (with_reducible repeat (first | apply Kd.R_alloc | apply Kd.R_drewN | apply Kd.R_drew)); exact HO564.out))) (kJ (by repeat (first | (with_reducible first | exact HB.out | apply kC | apply kA | apply kB) | exact HB.out)))); have n3_ := Aside0.mk (kK (by repeat (first | (with_reducible first | exact HB.out | apply kC | apply kA | apply kB) | exact HB.out)) hb); clear HO560; clear HO564; clear HB; have HO560 := n0_; have HO564 := n1_; have HO568 := n2_; have HB := n3_; clear n0_ n1_ n2_ n3_; (try clear hb); (try clear hb2); (try clear hk); (try clear hi); (try clear ho0); obtain ⟨Ao13, co13, eo13⟩ := Kd.R_slice HO568.out; subst eo13) | ((with_reducible refine kL (f := 69) rfl ?_); refine kO (some 13) rfl rfl Try.func69 (by kernel_rfl) rfl #[.agg #[.bool t565, .slice Ao13 t566.length co13]] rfl (by (try simp only [List.map_toArray, List.map_cons, List.map_nil]); first | done | rfl | (simp only [List.length_drop, List.length_take]; rfl)) ?_; (with_reducible refine (computusref01_Small.calls k t565 _ _ t566 t569 t570 _ ?side1 ?side2 A7.out).mono ?_); (case side1 => repeat (first | exact (Kd.R_reads' HO568.out).2.2 | (with_reducible refine Kd.C_alloc ?_ _) | (with_reducible refine Kd.C_drewN ?_ _) | (with_reducible refine Kd.C_drew ?_))); (case side2 => exact (Kd.R_reads' HO568.out).2.1); rintro e w14 ⟨rfl, hb⟩; refine ⟨_, rfl, ?_⟩; have n0_ := Aside0.mk (Kd.R_below (by (with_reducible repeat (first | apply Kd.R_alloc | apply Kd.R_drewN | apply Kd.R_drew)); exact HO560.out) hb); have n1_ := Aside0.mk (Kd.R_below (by (with_reducible repeat (first | apply Kd.R_alloc | apply Kd.R_drewN | apply Kd.R_drew)); exact HO564.out) hb); have n2_ := Aside0.mk (Kd.R_below (by (with_reducible repeat (first | apply Kd.R_alloc | apply Kd.R_drewN | apply Kd.R_drew)); exact HO568.out) hb); have n3_ := Aside0.mk (kK (by repeat (first | (with_reducible first | exact HB.out | apply kC | apply kA | apply kB) | exact HB.out)) hb); clear HO560; clear HO564; clear HO568; clear HB; have HO560 := n0_; have HO564 := n1_; have HO568 := n2_; have HB := n3_; clear n0_ n1_ n2_ n3_; (try clear hb); (try clear hb2); (try clear hk); (try clear hi)))
    go_ret2
    exact ⟨by first | rfl | (simp [errW_none, errW_some] <;> rfl) | (simp [*, errW_none, errW_some] <;> rfl), by repeat (first | (with_reducible first | exact HB.out | apply kC | apply kA | apply kB) | exact HB.out)⟩
end Go.Proofs.Ytgjbdojpncmmlaa.P
