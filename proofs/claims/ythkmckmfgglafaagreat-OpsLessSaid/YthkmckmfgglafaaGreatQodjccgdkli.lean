-- Written by a program of the session (a print of the seat's translation, functions given by hand among it). Lean checks it.
import Derived.Test.YthkmckmfgglafaaGreatQefmlpbeiik
import Derived.Test.YthkmckmfgglafaaGreatQjcdbecpohe
import Derived.Test.YthkmckmfgglafaaGreatQdgbgjngdfo
import Derived.Test.YthkmckmfgglafaaGreatQbagfbamkkf
import Derived.Test.YthkmckmfgglafaaGreatQchboofcopo
import Derived.Test.YthkmckmfgglafaaGreatQpdplgpnbob
import Derived.Test.YthkmckmfgglafaaGreatQacoejdoegp
namespace Go.Proofs.YthkmckmfgglafaaGreat.P
open Go.RowKit Go.Proofs.YthkmckmfgglafaaGreatW.PrintWords Go.Proofs.YthkmckmfgglafaaGreatW.PrintLast Go.Proofs.YthkmckmfgglafaaGreatW.PrintMore
open Go.Proofs.YthkmckmfgglafaaGreat.A
attribute [local go_sem] max2_int min2_int max_two min_two max_three min_three max_four min_four   -- for this text's walks alone
set_option linter.unusedVariables false
set_option linter.unusedSimpArgs false
def computusref01_Mod.f (k : Nat) (a0 : Int) (a1 : Int) : Option (Int × Int) := if a1 = 0 then (some (0, 11)) else ((computusref01_Of.f a0).bind fun bt548 => ((computusref01_Of.f a1).bind fun bt552 => ((computusref01_Of.f a0).bind fun bt556 => ((computusref01_Of.f a1).bind fun bt560 => ((computusref01_Over.f k bt556.1 bt556.2 bt560.1 bt560.2).bind fun bt564 => ((computusref01_Times.f k bt552.1 bt552.2 bt564.1 bt564.2).bind fun bt568 => ((computusref01_Minus.f k bt568.1 bt568.2).bind fun bt572 => ((computusref01_Plus.f k bt548.1 bt548.2 bt572.1 bt572.2).bind fun bt576 => ((computusref01_Small.f k bt576.1 bt576.2).bind fun bt580 => (some (bt580.1, bt580.2)))))))))))
theorem computusref01_Mod.mono : ∀ a0 a1 k, LeO (computusref01_Mod.f k a0 a1) (computusref01_Mod.f (k + 1) a0 a1) := by
  intro a0 a1 k
  unfold computusref01_Mod.f
  repeat' first
      | (with_reducible exact computusref01_Minus.mono _ _ _)
      | (with_reducible exact computusref01_Over.mono _ _ _ _ _)
      | (with_reducible exact computusref01_Plus.mono _ _ _ _ _)
      | (with_reducible exact computusref01_Small.mono _ _ _)
      | (with_reducible exact computusref01_Times.mono _ _ _ _ _)
      | (with_reducible exact LeO.refl _)
      | (with_reducible exact LeO.none _)
      | (with_reducible refine LeO.ite ?_ ?_)
      | (with_reducible refine LeO.bind ?_ (fun _ => ?_))
      | exact computusref01_Minus.mono _ _ _
      | exact computusref01_Over.mono _ _ _ _ _
      | exact computusref01_Plus.mono _ _ _ _ _
      | exact computusref01_Small.mono _ _ _
      | exact computusref01_Times.mono _ _ _ _ _
      | exact LeO.none _
      | refine LeO.ite ?_ ?_
      | refine LeO.bind ?_ (fun _ => ?_)
set_option maxHeartbeats 8000000 in
set_option maxRecDepth 100000 in
theorem computusref01_Mod.calls (k : Nat) (a0 : Int) (a1 : Int) (r1 : Int) (r2 : Int) (w : World) (h : computusref01_Mod.f k a0 a1 = some (r1, r2)) :
    Calls Tryz.prog 99 #[.int .i64 a0, .int .i64 a1] w fun e w' => e = .returned (.tuple #[.int .i64 r1, .int .i64 r2]) ∧ Below w.heap.size w w' := by
  have HB := Aside0.mk (Below.refl w.heap.size w)
  have H : (if a1 = 0 then (some (0, 11)) else ((computusref01_Of.f a0).bind fun bt548 => ((computusref01_Of.f a1).bind fun bt552 => ((computusref01_Of.f a0).bind fun bt556 => ((computusref01_Of.f a1).bind fun bt560 => ((computusref01_Over.f k bt556.1 bt556.2 bt560.1 bt560.2).bind fun bt564 => ((computusref01_Times.f k bt552.1 bt552.2 bt564.1 bt564.2).bind fun bt568 => ((computusref01_Minus.f k bt568.1 bt568.2).bind fun bt572 => ((computusref01_Plus.f k bt548.1 bt548.2 bt572.1 bt572.2).bind fun bt576 => ((computusref01_Small.f k bt576.1 bt576.2).bind fun bt580 => (some (bt580.1, bt580.2)))))))))))) = some (r1, r2) := h
  clear h
  by_cases c3 : a1 = 0
  · rw [if_pos c3] at H
    have c3b0 : (a1 == 0) = true := beq_iff_eq.mpr c3
    have c3b1 : (a1 != 0) = false := bne_eq_false_iff_eq.mpr c3
    clear c3
    simp only [Option.some.injEq, Prod.mk.injEq] at H
    obtain ⟨rfl, rfl⟩ := H
    go_enter Tryz.func99, Tryz.ntmps99
    go_wp2
    go_ret2
    exact ⟨by first | rfl | (simp [errW_none, errW_some] <;> rfl) | (simp [*, errW_none, errW_some] <;> rfl), by repeat (first | (with_reducible first | exact HB.out | apply kC | apply kA | apply kB) | exact HB.out)⟩
  · rw [if_neg c3] at H
    have c3b0 : (a1 == 0) = false := beq_eq_false_iff_ne.mpr c3
    have c3b1 : (a1 != 0) = true := bne_iff_ne.mpr c3
    replace H := Option.bind_eq_some_iff.mp H
    obtain ⟨⟨t548, t549⟩, A40, H⟩ := H
    replace H : ((computusref01_Of.f a1).bind fun bt552 => ((computusref01_Of.f a0).bind fun bt556 => ((computusref01_Of.f a1).bind fun bt560 => ((computusref01_Over.f k bt556.1 bt556.2 bt560.1 bt560.2).bind fun bt564 => ((computusref01_Times.f k bt552.1 bt552.2 bt564.1 bt564.2).bind fun bt568 => ((computusref01_Minus.f k bt568.1 bt568.2).bind fun bt572 => ((computusref01_Plus.f k t548 t549 bt572.1 bt572.2).bind fun bt576 => ((computusref01_Small.f k bt576.1 bt576.2).bind fun bt580 => (some (bt580.1, bt580.2)))))))))) = some (r1, r2) := H
    have A4 := Aside0.mk A40
    clear A40
    replace H := Option.bind_eq_some_iff.mp H
    obtain ⟨⟨t552, t553⟩, A50, H⟩ := H
    replace H : ((computusref01_Of.f a0).bind fun bt556 => ((computusref01_Of.f a1).bind fun bt560 => ((computusref01_Over.f k bt556.1 bt556.2 bt560.1 bt560.2).bind fun bt564 => ((computusref01_Times.f k t552 t553 bt564.1 bt564.2).bind fun bt568 => ((computusref01_Minus.f k bt568.1 bt568.2).bind fun bt572 => ((computusref01_Plus.f k t548 t549 bt572.1 bt572.2).bind fun bt576 => ((computusref01_Small.f k bt576.1 bt576.2).bind fun bt580 => (some (bt580.1, bt580.2))))))))) = some (r1, r2) := H
    have A5 := Aside0.mk A50
    clear A50
    replace H := Option.bind_eq_some_iff.mp H
    obtain ⟨⟨t556, t557⟩, A60, H⟩ := H
    replace H : ((computusref01_Of.f a1).bind fun bt560 => ((computusref01_Over.f k t556 t557 bt560.1 bt560.2).bind fun bt564 => ((computusref01_Times.f k t552 t553 bt564.1 bt564.2).bind fun bt568 => ((computusref01_Minus.f k bt568.1 bt568.2).bind fun bt572 => ((computusref01_Plus.f k t548 t549 bt572.1 bt572.2).bind fun bt576 => ((computusref01_Small.f k bt576.1 bt576.2).bind fun bt580 => (some (bt580.1, bt580.2)))))))) = some (r1, r2) := H
    have A6 := Aside0.mk A60
    clear A60
    replace H := Option.bind_eq_some_iff.mp H
    obtain ⟨⟨t560, t561⟩, A70, H⟩ := H
    replace H : ((computusref01_Over.f k t556 t557 t560 t561).bind fun bt564 => ((computusref01_Times.f k t552 t553 bt564.1 bt564.2).bind fun bt568 => ((computusref01_Minus.f k bt568.1 bt568.2).bind fun bt572 => ((computusref01_Plus.f k t548 t549 bt572.1 bt572.2).bind fun bt576 => ((computusref01_Small.f k bt576.1 bt576.2).bind fun bt580 => (some (bt580.1, bt580.2))))))) = some (r1, r2) := H
    have A7 := Aside0.mk A70
    clear A70
    replace H := Option.bind_eq_some_iff.mp H
    obtain ⟨⟨t564, t565⟩, A80, H⟩ := H
    replace H : ((computusref01_Times.f k t552 t553 t564 t565).bind fun bt568 => ((computusref01_Minus.f k bt568.1 bt568.2).bind fun bt572 => ((computusref01_Plus.f k t548 t549 bt572.1 bt572.2).bind fun bt576 => ((computusref01_Small.f k bt576.1 bt576.2).bind fun bt580 => (some (bt580.1, bt580.2)))))) = some (r1, r2) := H
    have A8 := Aside0.mk A80
    clear A80
    replace H := Option.bind_eq_some_iff.mp H
    obtain ⟨⟨t568, t569⟩, A90, H⟩ := H
    replace H : ((computusref01_Minus.f k t568 t569).bind fun bt572 => ((computusref01_Plus.f k t548 t549 bt572.1 bt572.2).bind fun bt576 => ((computusref01_Small.f k bt576.1 bt576.2).bind fun bt580 => (some (bt580.1, bt580.2))))) = some (r1, r2) := H
    have A9 := Aside0.mk A90
    clear A90
    replace H := Option.bind_eq_some_iff.mp H
    obtain ⟨⟨t572, t573⟩, A100, H⟩ := H
    replace H : ((computusref01_Plus.f k t548 t549 t572 t573).bind fun bt576 => ((computusref01_Small.f k bt576.1 bt576.2).bind fun bt580 => (some (bt580.1, bt580.2)))) = some (r1, r2) := H
    have A10 := Aside0.mk A100
    clear A100
    replace H := Option.bind_eq_some_iff.mp H
    obtain ⟨⟨t576, t577⟩, A110, H⟩ := H
    replace H : ((computusref01_Small.f k t576 t577).bind fun bt580 => (some (bt580.1, bt580.2))) = some (r1, r2) := H
    have A11 := Aside0.mk A110
    clear A110
    replace H := Option.bind_eq_some_iff.mp H
    obtain ⟨⟨t580, t581⟩, A120, H⟩ := H
    replace H : (some (t580, t581)) = some (r1, r2) := H
    have A12 := Aside0.mk A120
    clear A120
    simp only [Option.some.injEq, Prod.mk.injEq] at H
    obtain ⟨rfl, rfl⟩ := H
    go_enter Tryz.func99, Tryz.ntmps99
    go_wp2_with (first | ((with_reducible refine kM (f := 137) rfl ?_); refine goesL_ (some 9) rfl rfl Tryz.func137 (by kernel_rfl) rfl #[.int .i64 a0] rfl (by (try simp only [List.map_toArray, List.map_cons, List.map_nil]); first | done | rfl | (simp only [List.length_drop, List.length_take]; rfl)) ?_; (with_reducible refine (computusref01_Of.calls a0 t548 t549 _ A4.out).mono ?_); rintro e w13 ⟨v550, rfl, ho0, hb⟩; refine ⟨_, rfl, ?_⟩; have n0_ := Aside0.mk (Kd.R_lower ho0 (kI (by repeat (first | (with_reducible first | exact HB.out | apply kC | apply kA | apply kB) | exact HB.out)))); have n1_ := Aside0.mk (kK (by repeat (first | (with_reducible first | exact HB.out | apply kC | apply kA | apply kB) | exact HB.out)) hb); clear HB; have HO551 := n0_; have HB := n1_; clear n0_ n1_; (try clear hb); (try clear hb2); (try clear hk); (try clear hi); (try clear ho0)) | ((with_reducible refine kM (f := 137) rfl ?_); refine goesL_ (some 11) rfl rfl Tryz.func137 (by kernel_rfl) rfl #[.int .i64 a1] rfl (by (try simp only [List.map_toArray, List.map_cons, List.map_nil]); first | done | rfl | (simp only [List.length_drop, List.length_take]; rfl)) ?_; (with_reducible refine (computusref01_Of.calls a1 t552 t553 _ A5.out).mono ?_); rintro e w14 ⟨v554, rfl, ho0, hb⟩; refine ⟨_, rfl, ?_⟩; have n0_ := Aside0.mk (Kd.R_elder' (by (with_reducible repeat (first | apply Kd.R_alloc | apply Kd.R_drewN | apply Kd.R_drew)); exact HO551.out) (Kd.R_base ho0) hb); have n1_ := Aside0.mk (Kd.R_lower (Kd.R_new' ho0 (Kd.R_lt (by (with_reducible repeat (first | apply Kd.R_alloc | apply Kd.R_drewN | apply Kd.R_drew)); exact HO551.out))) (kI (by repeat (first | (with_reducible first | exact HB.out | apply kC | apply kA | apply kB) | exact HB.out)))); have n2_ := Aside0.mk (kK (by repeat (first | (with_reducible first | exact HB.out | apply kC | apply kA | apply kB) | exact HB.out)) hb); clear HO551; clear HB; have HO551 := n0_; have HO555 := n1_; have HB := n2_; clear n0_ n1_ n2_; (try clear hb); (try clear hb2); (try clear hk); (try clear hi); (try clear ho0)) | ((with_reducible refine kM (f := 137) rfl ?_); refine goesL_ (some 13) rfl rfl Tryz.func137 (by kernel_rfl) rfl #[.int .i64 a0] rfl (by (try simp only [List.map_toArray, List.map_cons, List.map_nil]); first | done | rfl | (simp only [List.length_drop, List.length_take]; rfl)) ?_; (with_reducible refine (computusref01_Of.calls a0 t556 t557 _ A6.out).mono ?_); rintro e w15 ⟨v558, rfl, ho0, hb⟩; refine ⟨_, rfl, ?_⟩; have n0_ := Aside0.mk (Kd.R_elder' (by (with_reducible repeat (first | apply Kd.R_alloc | apply Kd.R_drewN | apply Kd.R_drew)); exact HO551.out) (Kd.R_base ho0) hb); have n1_ := Aside0.mk (Kd.R_elder' (by (with_reducible repeat (first | apply Kd.R_alloc | apply Kd.R_drewN | apply Kd.R_drew)); exact HO555.out) (Kd.R_base ho0) hb); have n2_ := Aside0.mk (Kd.R_lower (Kd.R_new' (Kd.R_new' ho0 (Kd.R_lt (by (with_reducible repeat (first | apply Kd.R_alloc | apply Kd.R_drewN | apply Kd.R_drew)); exact HO551.out))) (Kd.R_lt (by (with_reducible repeat (first | apply Kd.R_alloc | apply Kd.R_drewN | apply Kd.R_drew)); exact HO555.out))) (kI (by repeat (first | (with_reducible first | exact HB.out | apply kC | apply kA | apply kB) | exact HB.out)))); have n3_ := Aside0.mk (kK (by repeat (first | (with_reducible first | exact HB.out | apply kC | apply kA | apply kB) | exact HB.out)) hb); clear HO551; clear HO555; clear HB; have HO551 := n0_; have HO555 := n1_; have HO559 := n2_; have HB := n3_; clear n0_ n1_ n2_ n3_; (try clear hb); (try clear hb2); (try clear hk); (try clear hi); (try clear ho0)) | ((with_reducible refine kM (f := 137) rfl ?_); refine goesL_ (some 15) rfl rfl Tryz.func137 (by kernel_rfl) rfl #[.int .i64 a1] rfl (by (try simp only [List.map_toArray, List.map_cons, List.map_nil]); first | done | rfl | (simp only [List.length_drop, List.length_take]; rfl)) ?_; (with_reducible refine (computusref01_Of.calls a1 t560 t561 _ A7.out).mono ?_); rintro e w16 ⟨v562, rfl, ho0, hb⟩; refine ⟨_, rfl, ?_⟩; have n0_ := Aside0.mk (Kd.R_elder' (by (with_reducible repeat (first | apply Kd.R_alloc | apply Kd.R_drewN | apply Kd.R_drew)); exact HO551.out) (Kd.R_base ho0) hb); have n1_ := Aside0.mk (Kd.R_elder' (by (with_reducible repeat (first | apply Kd.R_alloc | apply Kd.R_drewN | apply Kd.R_drew)); exact HO555.out) (Kd.R_base ho0) hb); have n2_ := Aside0.mk (Kd.R_elder' (by (with_reducible repeat (first | apply Kd.R_alloc | apply Kd.R_drewN | apply Kd.R_drew)); exact HO559.out) (Kd.R_base ho0) hb); have n3_ := Aside0.mk (Kd.R_lower (Kd.R_new' (Kd.R_new' (Kd.R_new' ho0 (Kd.R_lt (by (with_reducible repeat (first | apply Kd.R_alloc | apply Kd.R_drewN | apply Kd.R_drew)); exact HO551.out))) (Kd.R_lt (by (with_reducible repeat (first | apply Kd.R_alloc | apply Kd.R_drewN | apply Kd.R_drew)); exact HO555.out))) (Kd.R_lt (by (with_reducible repeat (first | apply Kd.R_alloc | apply Kd.R_drewN | apply Kd.R_drew)); exact HO559.out))) (kI (by repeat (first | (with_reducible first | exact HB.out | apply kC | apply kA | apply kB) | exact HB.out)))); have n4_ := Aside0.mk (kK (by repeat (first | (with_reducible first | exact HB.out | apply kC | apply kA | apply kB) | exact HB.out)) hb); clear HO551; clear HO555; clear HO559; clear HB; have HO551 := n0_; have HO555 := n1_; have HO559 := n2_; have HO563 := n3_; have HB := n4_; clear n0_ n1_ n2_ n3_ n4_; (try clear hb); (try clear hb2); (try clear hk); (try clear hi); (try clear ho0); obtain ⟨Ao17, co17, eo17⟩ := Kd.R_slice HO559.out; subst eo17; obtain ⟨Ao18, co18, eo18⟩ := Kd.R_slice HO563.out; subst eo18) | ((with_reducible refine kM (f := 136) rfl ?_); refine goesL_ (some 16) rfl rfl Tryz.func136 (by kernel_rfl) rfl #[.agg #[.bool t556, .slice Ao17 t557.length co17], .agg #[.bool t560, .slice Ao18 t561.length co18]] rfl (by (try simp only [List.map_toArray, List.map_cons, List.map_nil]); first | done | rfl | (simp only [List.length_drop, List.length_take]; rfl)) ?_; (with_reducible refine (computusref01_Over.calls k t556 _ _ t557 t560 _ _ t561 t564 t565 _ ?side1 ?side2 ?side3 ?side4 A8.out).mono ?_); (case side1 => repeat (first | exact (Kd.R_reads' HO559.out).2.2 | (with_reducible refine Kd.C_alloc ?_ _) | (with_reducible refine Kd.C_drewN ?_ _) | (with_reducible refine Kd.C_drew ?_))); (case side2 => exact (Kd.R_reads' HO559.out).2.1); (case side3 => repeat (first | exact (Kd.R_reads' HO563.out).2.2 | (with_reducible refine Kd.C_alloc ?_ _) | (with_reducible refine Kd.C_drewN ?_ _) | (with_reducible refine Kd.C_drew ?_))); (case side4 => exact (Kd.R_reads' HO563.out).2.1); rintro e w19 ⟨v566, rfl, ho0, hb⟩; refine ⟨_, rfl, ?_⟩; have n0_ := Aside0.mk (Kd.R_elder' (by (with_reducible repeat (first | apply Kd.R_alloc | apply Kd.R_drewN | apply Kd.R_drew)); exact HO551.out) (Kd.R_base ho0) hb); have n1_ := Aside0.mk (Kd.R_elder' (by (with_reducible repeat (first | apply Kd.R_alloc | apply Kd.R_drewN | apply Kd.R_drew)); exact HO555.out) (Kd.R_base ho0) hb); have n2_ := Aside0.mk (Kd.R_elder' (by (with_reducible repeat (first | apply Kd.R_alloc | apply Kd.R_drewN | apply Kd.R_drew)); exact HO559.out) (Kd.R_base ho0) hb); have n3_ := Aside0.mk (Kd.R_elder' (by (with_reducible repeat (first | apply Kd.R_alloc | apply Kd.R_drewN | apply Kd.R_drew)); exact HO563.out) (Kd.R_base ho0) hb); have n4_ := Aside0.mk (Kd.R_lower (Kd.R_new' (Kd.R_new' (Kd.R_new' (Kd.R_new' ho0 (Kd.R_lt (by (with_reducible repeat (first | apply Kd.R_alloc | apply Kd.R_drewN | apply Kd.R_drew)); exact HO551.out))) (Kd.R_lt (by (with_reducible repeat (first | apply Kd.R_alloc | apply Kd.R_drewN | apply Kd.R_drew)); exact HO555.out))) (Kd.R_lt (by (with_reducible repeat (first | apply Kd.R_alloc | apply Kd.R_drewN | apply Kd.R_drew)); exact HO559.out))) (Kd.R_lt (by (with_reducible repeat (first | apply Kd.R_alloc | apply Kd.R_drewN | apply Kd.R_drew)); exact HO563.out))) (kI (by repeat (first | (with_reducible first | exact HB.out | apply kC | apply kA | apply kB) | exact HB.out)))); have n5_ := Aside0.mk (kK (by repeat (first | (with_reducible first | exact HB.out | apply kC | apply kA | apply kB) | exact HB.out)) hb); clear HO551; clear HO555; clear HO559; clear HO563; clear HB; have HO551 := n0_; have HO555 := n1_; have HO559 := n2_; have HO563 := n3_; have HO567 := n4_; have HB := n5_; clear n0_ n1_ n2_ n3_ n4_ n5_; (try clear hb); (try clear hb2); (try clear hk); (try clear hi); (try clear ho0); obtain ⟨Ao20, co20, eo20⟩ := Kd.R_slice HO555.out; subst eo20; obtain ⟨Ao21, co21, eo21⟩ := Kd.R_slice HO567.out; subst eo21) | ((with_reducible refine kM (f := 140) rfl ?_); refine goesL_ (some 17) rfl rfl Tryz.func140 (by kernel_rfl) rfl #[.agg #[.bool t552, .slice Ao20 t553.length co20], .agg #[.bool t564, .slice Ao21 t565.length co21]] rfl (by (try simp only [List.map_toArray, List.map_cons, List.map_nil]); first | done | rfl | (simp only [List.length_drop, List.length_take]; rfl)) ?_; (with_reducible refine (computusref01_Times.calls k t552 _ _ t553 t564 _ _ t565 t568 t569 _ ?side1 ?side2 ?side3 ?side4 A9.out).mono ?_); (case side1 => repeat (first | exact (Kd.R_reads' HO555.out).2.2 | (with_reducible refine Kd.C_alloc ?_ _) | (with_reducible refine Kd.C_drewN ?_ _) | (with_reducible refine Kd.C_drew ?_))); (case side2 => exact (Kd.R_reads' HO555.out).2.1); (case side3 => repeat (first | exact (Kd.R_reads' HO567.out).2.2 | (with_reducible refine Kd.C_alloc ?_ _) | (with_reducible refine Kd.C_drewN ?_ _) | (with_reducible refine Kd.C_drew ?_))); (case side4 => exact (Kd.R_reads' HO567.out).2.1); rintro e w22 ⟨v570, rfl, ho0, hb⟩; refine ⟨_, rfl, ?_⟩; have n0_ := Aside0.mk (Kd.R_elder' (by (with_reducible repeat (first | apply Kd.R_alloc | apply Kd.R_drewN | apply Kd.R_drew)); exact HO551.out) (Kd.R_base ho0) hb); have n1_ := Aside0.mk (Kd.R_elder' (by (with_reducible repeat (first | apply Kd.R_alloc | apply Kd.R_drewN | apply Kd.R_drew)); exact HO555.out) (Kd.R_base ho0) hb); have n2_ := Aside0.mk (Kd.R_elder' (by (with_reducible repeat (first | apply Kd.R_alloc | apply Kd.R_drewN | apply Kd.R_drew)); exact HO559.out) (Kd.R_base ho0) hb); have n3_ := Aside0.mk (Kd.R_elder' (by (with_reducible repeat (first | apply Kd.R_alloc | apply Kd.R_drewN | apply Kd.R_drew)); exact HO563.out) (Kd.R_base ho0) hb); have n4_ := Aside0.mk (Kd.R_elder' (by (with_reducible repeat (first | apply Kd.R_alloc | apply Kd.R_drewN | apply Kd.R_drew)); exact HO567.out) (Kd.R_base ho0) hb); have n5_ := Aside0.mk (Kd.R_lower (Kd.R_new' (Kd.R_new' (Kd.R_new' (Kd.R_new' (Kd.R_new' ho0 (Kd.R_lt (by (with_reducible repeat (first | apply Kd.R_alloc | apply Kd.R_drewN | apply Kd.R_drew)); exact HO551.out))) (Kd.R_lt (by (with_reducible repeat (first | apply Kd.R_alloc | apply Kd.R_drewN | apply Kd.R_drew)); exact HO555.out))) (Kd.R_lt (by (with_reducible repeat (first | apply Kd.R_alloc | apply Kd.R_drewN | apply Kd.R_drew)); exact HO559.out))) (Kd.R_lt (by (with_reducible repeat (first | apply Kd.R_alloc | apply Kd.R_drewN | apply Kd.R_drew)); exact HO563.out))) (Kd.R_lt (by (with_reducible repeat (first | apply Kd.R_alloc | apply Kd.R_drewN | apply Kd.R_drew)); exact HO567.out))) (kI (by repeat (first | (with_reducible first | exact HB.out | apply kC | apply kA | apply kB) | exact HB.out)))); have n6_ := Aside0.mk (kK (by repeat (first | (with_reducible first | exact HB.out | apply kC | apply kA | apply kB) | exact HB.out)) hb); clear HO551; clear HO555; clear HO559; clear HO563; clear HO567; clear HB; have HO551 := n0_; have HO555 := n1_; have HO559 := n2_; have HO563 := n3_; have HO567 := n4_; have HO571 := n5_; have HB := n6_; clear n0_ n1_ n2_ n3_ n4_ n5_ n6_; (try clear hb); (try clear hb2); (try clear hk); (try clear hi); (try clear ho0); obtain ⟨Ao23, co23, eo23⟩ := Kd.R_slice HO571.out; subst eo23) | ((with_reducible refine kM (f := 139) rfl ?_); refine goesL_ (some 18) rfl rfl Tryz.func139 (by kernel_rfl) rfl #[.agg #[.bool t568, .slice Ao23 t569.length co23]] rfl (by (try simp only [List.map_toArray, List.map_cons, List.map_nil]); first | done | rfl | (simp only [List.length_drop, List.length_take]; rfl)) ?_; (with_reducible refine (computusref01_Minus.calls k t568 (fun k_ => some k_ = (.slice Ao23 t569.length co23 : Value).ownBlock) (.slice Ao23 t569.length co23) t569 t572 t573 w _ ?side1 ?side2 A10.out).mono ?_); (case side1 => repeat (first | (with_reducible first | exact HB.out | apply kC | apply kA | apply kB) | exact HB.out)); (case side2 => exact Kd.R_tight rfl HO571.out); rintro e w24 ⟨v574, rfl, ho0, hb, hkp⟩; refine ⟨_, rfl, ?_⟩; have n0_ := Aside0.mk (Kd.R_mono (ok' := fun k_ => some k_ ≠ (.slice Ao20 t553.length co20 : Value).ownBlock ∧ some k_ ≠ (.slice Ao17 t557.length co17 : Value).ownBlock ∧ some k_ ≠ (.slice Ao18 t561.length co18 : Value).ownBlock ∧ some k_ ≠ (.slice Ao21 t565.length co21 : Value).ownBlock ∧ some k_ ≠ (v574 : Value).ownBlock) (Kd.R_keptB (HO551.out) hkp (fun k_ hk_ hs_ => (hk_.2) hs_)) (fun k_ hk_ => ⟨hk_.1.1.1.1.1.2, hk_.1.1.1.1.2, hk_.1.1.1.2, hk_.1.1.2, fun e_ => Or.elim (ho0.1 k_ e_.symm) (fun hs_ => hk_.2.1 hs_) (fun hn_ => Nat.not_le.2 hk_.2.2 hn_)⟩)); have n1_ := Aside0.mk (Kd.R_mono (ok' := fun k_ => some k_ ≠ (v550 : Value).ownBlock ∧ some k_ ≠ (.slice Ao17 t557.length co17 : Value).ownBlock ∧ some k_ ≠ (.slice Ao18 t561.length co18 : Value).ownBlock ∧ some k_ ≠ (.slice Ao21 t565.length co21 : Value).ownBlock ∧ some k_ ≠ (v574 : Value).ownBlock) (Kd.R_keptB (HO555.out) hkp (fun k_ hk_ hs_ => (hk_.2) hs_)) (fun k_ hk_ => ⟨hk_.1.1.1.1.1.2, hk_.1.1.1.1.2, hk_.1.1.1.2, hk_.1.1.2, fun e_ => Or.elim (ho0.1 k_ e_.symm) (fun hs_ => hk_.2.1 hs_) (fun hn_ => Nat.not_le.2 hk_.2.2 hn_)⟩)); have n2_ := Aside0.mk (Kd.R_mono (ok' := fun k_ => some k_ ≠ (v550 : Value).ownBlock ∧ some k_ ≠ (.slice Ao20 t553.length co20 : Value).ownBlock ∧ some k_ ≠ (.slice Ao18 t561.length co18 : Value).ownBlock ∧ some k_ ≠ (.slice Ao21 t565.length co21 : Value).ownBlock ∧ some k_ ≠ (v574 : Value).ownBlock) (Kd.R_keptB (HO559.out) hkp (fun k_ hk_ hs_ => (hk_.2) hs_)) (fun k_ hk_ => ⟨hk_.1.1.1.1.1.2, hk_.1.1.1.1.2, hk_.1.1.1.2, hk_.1.1.2, fun e_ => Or.elim (ho0.1 k_ e_.symm) (fun hs_ => hk_.2.1 hs_) (fun hn_ => Nat.not_le.2 hk_.2.2 hn_)⟩)); have n3_ := Aside0.mk (Kd.R_mono (ok' := fun k_ => some k_ ≠ (v550 : Value).ownBlock ∧ some k_ ≠ (.slice Ao20 t553.length co20 : Value).ownBlock ∧ some k_ ≠ (.slice Ao17 t557.length co17 : Value).ownBlock ∧ some k_ ≠ (.slice Ao21 t565.length co21 : Value).ownBlock ∧ some k_ ≠ (v574 : Value).ownBlock) (Kd.R_keptB (HO563.out) hkp (fun k_ hk_ hs_ => (hk_.2) hs_)) (fun k_ hk_ => ⟨hk_.1.1.1.1.1.2, hk_.1.1.1.1.2, hk_.1.1.1.2, hk_.1.1.2, fun e_ => Or.elim (ho0.1 k_ e_.symm) (fun hs_ => hk_.2.1 hs_) (fun hn_ => Nat.not_le.2 hk_.2.2 hn_)⟩)); have n4_ := Aside0.mk (Kd.R_mono (ok' := fun k_ => some k_ ≠ (v550 : Value).ownBlock ∧ some k_ ≠ (.slice Ao20 t553.length co20 : Value).ownBlock ∧ some k_ ≠ (.slice Ao17 t557.length co17 : Value).ownBlock ∧ some k_ ≠ (.slice Ao18 t561.length co18 : Value).ownBlock ∧ some k_ ≠ (v574 : Value).ownBlock) (Kd.R_keptB (HO567.out) hkp (fun k_ hk_ hs_ => (hk_.2) hs_)) (fun k_ hk_ => ⟨hk_.1.1.1.1.1.2, hk_.1.1.1.1.2, hk_.1.1.1.2, hk_.1.1.2, fun e_ => Or.elim (ho0.1 k_ e_.symm) (fun hs_ => hk_.2.1 hs_) (fun hn_ => Nat.not_le.2 hk_.2.2 hn_)⟩)); have n5_ := Aside0.mk (Kd.R_mono (ok' := fun k_ => some k_ ≠ (v550 : Value).ownBlock ∧ some k_ ≠ (.slice Ao20 t553.length co20 : Value).ownBlock ∧ some k_ ≠ (.slice Ao17 t557.length co17 : Value).ownBlock ∧ some k_ ≠ (.slice Ao18 t561.length co18 : Value).ownBlock ∧ some k_ ≠ (.slice Ao21 t565.length co21 : Value).ownBlock) ho0 (fun k_ hk_ => ⟨Or.elim hk_ (fun hs_ => fun e_ => (((HO551.out).1 k_ e_.symm).2) hs_) (fun hn_ => (Kd.fresh' (Kd.R_lt (by (with_reducible repeat (first | apply Kd.R_alloc | apply Kd.R_drewN | apply Kd.R_drew)); exact HO551.out)) k_ hn_)), Or.elim hk_ (fun hs_ => fun e_ => (((HO555.out).1 k_ e_.symm).2) hs_) (fun hn_ => (Kd.fresh' (Kd.R_lt (by (with_reducible repeat (first | apply Kd.R_alloc | apply Kd.R_drewN | apply Kd.R_drew)); exact HO555.out)) k_ hn_)), Or.elim hk_ (fun hs_ => fun e_ => (((HO559.out).1 k_ e_.symm).2) hs_) (fun hn_ => (Kd.fresh' (Kd.R_lt (by (with_reducible repeat (first | apply Kd.R_alloc | apply Kd.R_drewN | apply Kd.R_drew)); exact HO559.out)) k_ hn_)), Or.elim hk_ (fun hs_ => fun e_ => (((HO563.out).1 k_ e_.symm).2) hs_) (fun hn_ => (Kd.fresh' (Kd.R_lt (by (with_reducible repeat (first | apply Kd.R_alloc | apply Kd.R_drewN | apply Kd.R_drew)); exact HO563.out)) k_ hn_)), Or.elim hk_ (fun hs_ => fun e_ => (((HO567.out).1 k_ e_.symm).2) hs_) (fun hn_ => (Kd.fresh' (Kd.R_lt (by (with_reducible repeat (first | apply Kd.R_alloc | apply Kd.R_drewN | apply Kd.R_drew)); exact HO567.out)) k_ hn_))⟩)); have n6_ := Aside0.mk (hb); clear HO551; clear HO555; clear HO559; clear HO563; clear HO567; clear HB; clear HO571; have HO551 := n0_; have HO555 := n1_; have HO559 := n2_; have HO563 := n3_; have HO567 := n4_; have HO575 := n5_; have HB := n6_; clear n0_ n1_ n2_ n3_ n4_ n5_ n6_; (try clear hb); (try clear hkp); (try clear ho0); obtain ⟨Ao25, co25, eo25⟩ := Kd.R_slice HO551.out; subst eo25; obtain ⟨Ao26, co26, eo26⟩ := Kd.R_slice HO575.out; subst eo26) | ((with_reducible refine kM (f := 138) rfl ?_); refine goesL_ (some 19) rfl rfl Tryz.func138 (by kernel_rfl) rfl #[.agg #[.bool t548, .slice Ao25 t549.length co25], .agg #[.bool t572, .slice Ao26 t573.length co26]] rfl (by (try simp only [List.map_toArray, List.map_cons, List.map_nil]); first | done | rfl | (simp only [List.length_drop, List.length_take]; rfl)) ?_; (with_reducible refine (computusref01_Plus.calls k t548 _ _ t549 t572 _ _ t573 t576 t577 _ ?side1 ?side2 ?side3 ?side4 A11.out).mono ?_); (case side1 => repeat (first | exact (Kd.R_reads' HO551.out).2.2 | (with_reducible refine Kd.C_alloc ?_ _) | (with_reducible refine Kd.C_drewN ?_ _) | (with_reducible refine Kd.C_drew ?_))); (case side2 => exact (Kd.R_reads' HO551.out).2.1); (case side3 => repeat (first | exact (Kd.R_reads' HO575.out).2.2 | (with_reducible refine Kd.C_alloc ?_ _) | (with_reducible refine Kd.C_drewN ?_ _) | (with_reducible refine Kd.C_drew ?_))); (case side4 => exact (Kd.R_reads' HO575.out).2.1); rintro e w27 ⟨v578, rfl, ho0, hb⟩; refine ⟨_, rfl, ?_⟩; have n0_ := Aside0.mk (Kd.R_elder' (by (with_reducible repeat (first | apply Kd.R_alloc | apply Kd.R_drewN | apply Kd.R_drew)); exact HO551.out) (Kd.R_base ho0) hb); have n1_ := Aside0.mk (Kd.R_elder' (by (with_reducible repeat (first | apply Kd.R_alloc | apply Kd.R_drewN | apply Kd.R_drew)); exact HO555.out) (Kd.R_base ho0) hb); have n2_ := Aside0.mk (Kd.R_elder' (by (with_reducible repeat (first | apply Kd.R_alloc | apply Kd.R_drewN | apply Kd.R_drew)); exact HO559.out) (Kd.R_base ho0) hb); have n3_ := Aside0.mk (Kd.R_elder' (by (with_reducible repeat (first | apply Kd.R_alloc | apply Kd.R_drewN | apply Kd.R_drew)); exact HO563.out) (Kd.R_base ho0) hb); have n4_ := Aside0.mk (Kd.R_elder' (by (with_reducible repeat (first | apply Kd.R_alloc | apply Kd.R_drewN | apply Kd.R_drew)); exact HO567.out) (Kd.R_base ho0) hb); have n5_ := Aside0.mk (Kd.R_elder' (by (with_reducible repeat (first | apply Kd.R_alloc | apply Kd.R_drewN | apply Kd.R_drew)); exact HO575.out) (Kd.R_base ho0) hb); have n6_ := Aside0.mk (Kd.R_lower (Kd.R_new' (Kd.R_new' (Kd.R_new' (Kd.R_new' (Kd.R_new' (Kd.R_new' ho0 (Kd.R_lt (by (with_reducible repeat (first | apply Kd.R_alloc | apply Kd.R_drewN | apply Kd.R_drew)); exact HO551.out))) (Kd.R_lt (by (with_reducible repeat (first | apply Kd.R_alloc | apply Kd.R_drewN | apply Kd.R_drew)); exact HO555.out))) (Kd.R_lt (by (with_reducible repeat (first | apply Kd.R_alloc | apply Kd.R_drewN | apply Kd.R_drew)); exact HO559.out))) (Kd.R_lt (by (with_reducible repeat (first | apply Kd.R_alloc | apply Kd.R_drewN | apply Kd.R_drew)); exact HO563.out))) (Kd.R_lt (by (with_reducible repeat (first | apply Kd.R_alloc | apply Kd.R_drewN | apply Kd.R_drew)); exact HO567.out))) (Kd.R_lt (by (with_reducible repeat (first | apply Kd.R_alloc | apply Kd.R_drewN | apply Kd.R_drew)); exact HO575.out))) (kI (by repeat (first | (with_reducible first | exact HB.out | apply kC | apply kA | apply kB) | exact HB.out)))); have n7_ := Aside0.mk (kK (by repeat (first | (with_reducible first | exact HB.out | apply kC | apply kA | apply kB) | exact HB.out)) hb); clear HO551; clear HO555; clear HO559; clear HO563; clear HO567; clear HO575; clear HB; have HO551 := n0_; have HO555 := n1_; have HO559 := n2_; have HO563 := n3_; have HO567 := n4_; have HO575 := n5_; have HO579 := n6_; have HB := n7_; clear n0_ n1_ n2_ n3_ n4_ n5_ n6_ n7_; (try clear hb); (try clear hb2); (try clear hk); (try clear hi); (try clear ho0); obtain ⟨Ao28, co28, eo28⟩ := Kd.R_slice HO579.out; subst eo28) | ((with_reducible refine kM (f := 135) rfl ?_); refine goesL_ (some 20) rfl rfl Tryz.func135 (by kernel_rfl) rfl #[.agg #[.bool t576, .slice Ao28 t577.length co28]] rfl (by (try simp only [List.map_toArray, List.map_cons, List.map_nil]); first | done | rfl | (simp only [List.length_drop, List.length_take]; rfl)) ?_; (with_reducible refine (computusref01_Small.calls k t576 _ _ t577 t580 t581 _ ?side1 ?side2 A12.out).mono ?_); (case side1 => repeat (first | exact (Kd.R_reads' HO579.out).2.2 | (with_reducible refine Kd.C_alloc ?_ _) | (with_reducible refine Kd.C_drewN ?_ _) | (with_reducible refine Kd.C_drew ?_))); (case side2 => exact (Kd.R_reads' HO579.out).2.1); rintro e w29 ⟨rfl, hb⟩; refine ⟨_, rfl, ?_⟩; have n0_ := Aside0.mk (Kd.R_below (by (with_reducible repeat (first | apply Kd.R_alloc | apply Kd.R_drewN | apply Kd.R_drew)); exact HO551.out) hb); have n1_ := Aside0.mk (Kd.R_below (by (with_reducible repeat (first | apply Kd.R_alloc | apply Kd.R_drewN | apply Kd.R_drew)); exact HO555.out) hb); have n2_ := Aside0.mk (Kd.R_below (by (with_reducible repeat (first | apply Kd.R_alloc | apply Kd.R_drewN | apply Kd.R_drew)); exact HO559.out) hb); have n3_ := Aside0.mk (Kd.R_below (by (with_reducible repeat (first | apply Kd.R_alloc | apply Kd.R_drewN | apply Kd.R_drew)); exact HO563.out) hb); have n4_ := Aside0.mk (Kd.R_below (by (with_reducible repeat (first | apply Kd.R_alloc | apply Kd.R_drewN | apply Kd.R_drew)); exact HO567.out) hb); have n5_ := Aside0.mk (Kd.R_below (by (with_reducible repeat (first | apply Kd.R_alloc | apply Kd.R_drewN | apply Kd.R_drew)); exact HO575.out) hb); have n6_ := Aside0.mk (Kd.R_below (by (with_reducible repeat (first | apply Kd.R_alloc | apply Kd.R_drewN | apply Kd.R_drew)); exact HO579.out) hb); have n7_ := Aside0.mk (kK (by repeat (first | (with_reducible first | exact HB.out | apply kC | apply kA | apply kB) | exact HB.out)) hb); clear HO551; clear HO555; clear HO559; clear HO563; clear HO567; clear HO575; clear HO579; clear HB; have HO551 := n0_; have HO555 := n1_; have HO559 := n2_; have HO563 := n3_; have HO567 := n4_; have HO575 := n5_; have HO579 := n6_; have HB := n7_; clear n0_ n1_ n2_ n3_ n4_ n5_ n6_ n7_; (try clear hb); (try clear hb2); (try clear hk); (try clear hi)))
    go_ret2
    exact ⟨by first | rfl | (simp [errW_none, errW_some] <;> rfl) | (simp [*, errW_none, errW_some] <;> rfl), by repeat (first | (with_reducible first | exact HB.out | apply kC | apply kA | apply kB) | exact HB.out)⟩
def computusref01_Split.f (k : Nat) (a0 : Int) : Option (Int × Int) := (computusref01_Div.f k a0 86400000000).bind fun bt582 => ((computusref01_Mod.f k a0 86400000000).bind fun bt584 => (some (bt582.1, bt584.1)))
theorem computusref01_Split.mono : ∀ a0 k, LeO (computusref01_Split.f k a0) (computusref01_Split.f (k + 1) a0) := by
  intro a0 k
  unfold computusref01_Split.f
  repeat' first
      | (with_reducible exact computusref01_Div.mono _ _ _)
      | (with_reducible exact computusref01_Mod.mono _ _ _)
      | (with_reducible exact LeO.refl _)
      | (with_reducible exact LeO.none _)
      | (with_reducible refine LeO.ite ?_ ?_)
      | (with_reducible refine LeO.bind ?_ (fun _ => ?_))
      | exact computusref01_Div.mono _ _ _
      | exact computusref01_Mod.mono _ _ _
      | exact LeO.none _
      | refine LeO.ite ?_ ?_
      | refine LeO.bind ?_ (fun _ => ?_)
set_option maxHeartbeats 8000000 in
set_option maxRecDepth 100000 in
theorem computusref01_Split.calls (k : Nat) (a0 : Int) (r1 : Int) (r2 : Int) (w : World) (h : computusref01_Split.f k a0 = some (r1, r2)) :
    Calls Tryz.prog 48 #[.int .i64 a0] w fun e w' => e = .returned (.tuple #[.int .i64 r1, .int .i64 r2]) ∧ Below w.heap.size w w' := by
  have HB := Aside0.mk (Below.refl w.heap.size w)
  have H : ((computusref01_Div.f k a0 86400000000).bind fun bt582 => ((computusref01_Mod.f k a0 86400000000).bind fun bt584 => (some (bt582.1, bt584.1)))) = some (r1, r2) := h
  clear h
  replace H := Option.bind_eq_some_iff.mp H
  obtain ⟨⟨t582, t583⟩, A20, H⟩ := H
  replace H : ((computusref01_Mod.f k a0 86400000000).bind fun bt584 => (some (t582, bt584.1))) = some (r1, r2) := H
  have A2 := Aside0.mk A20
  clear A20
  replace H := Option.bind_eq_some_iff.mp H
  obtain ⟨⟨t584, t585⟩, A30, H⟩ := H
  replace H : (some (t582, t584)) = some (r1, r2) := H
  have A3 := Aside0.mk A30
  clear A30
  simp only [Option.some.injEq, Prod.mk.injEq] at H
  obtain ⟨rfl, rfl⟩ := H
  go_enter Tryz.func48, Tryz.ntmps48
  go_wp2_with (first | ((with_reducible refine kM (f := 98) rfl ?_); refine goesL_ (some 10) rfl rfl Tryz.func98 (by kernel_rfl) rfl #[.int .i64 a0, .int .i64 86400000000] rfl (by (try simp only [List.map_toArray, List.map_cons, List.map_nil]); first | done | rfl | (simp only [List.length_drop, List.length_take]; rfl)) ?_; (with_reducible refine (computusref01_Div.calls k a0 86400000000 t582 t583 _ A2.out).mono ?_); rintro e w4 ⟨rfl, hb⟩; refine ⟨_, rfl, ?_⟩; have n0_ := Aside0.mk (kK (by repeat (first | (with_reducible first | exact HB.out | apply kC | apply kA | apply kB) | exact HB.out)) hb); clear HB; have HB := n0_; clear n0_; (try clear hb); (try clear hb2); (try clear hk); (try clear hi)) | ((with_reducible refine kM (f := 99) rfl ?_); refine goesL_ (some 15) rfl rfl Tryz.func99 (by kernel_rfl) rfl #[.int .i64 a0, .int .i64 86400000000] rfl (by (try simp only [List.map_toArray, List.map_cons, List.map_nil]); first | done | rfl | (simp only [List.length_drop, List.length_take]; rfl)) ?_; (with_reducible refine (computusref01_Mod.calls k a0 86400000000 t584 t585 _ A3.out).mono ?_); rintro e w5 ⟨rfl, hb⟩; refine ⟨_, rfl, ?_⟩; have n0_ := Aside0.mk (kK (by repeat (first | (with_reducible first | exact HB.out | apply kC | apply kA | apply kB) | exact HB.out)) hb); clear HB; have HB := n0_; clear n0_; (try clear hb); (try clear hb2); (try clear hk); (try clear hi)))
  go_ret2
  exact ⟨by first | rfl | (simp [errW_none, errW_some] <;> rfl) | (simp [*, errW_none, errW_some] <;> rfl), by repeat (first | (with_reducible first | exact HB.out | apply kC | apply kA | apply kB) | exact HB.out)⟩
noncomputable def computusref01_Split.con (k : Nat) : Con
  | [.int .i64 a0] => some ((computusref01_Split.f k a0).isSome, .tup [.int .i64 (gd (computusref01_Split.f k a0)).1, .int .i64 (gd (computusref01_Split.f k a0)).2])
  | _ => none
set_option maxRecDepth 100000 in
theorem computusref01_Split.cok (k : Nat) : COk Tryz.prog 48 (computusref01_Split.con k) := by
  intro args p v hc hp w A hA
  unfold computusref01_Split.con at hc
  split at hc
  · rename_i a0
    simp only [Option.some.injEq, Prod.mk.injEq] at hc
    obtain ⟨rfl, rfl⟩ := hc
    rcases hf : computusref01_Split.f k a0 with _ | ⟨r1, r2⟩
    · rw [hf] at hp; cases hp
    obtain rfl : A = [.int .i64 a0] := by simpa [rl_cons, rl_nil, rv_int, rv_bool, rv_str, rv_agg, rv_fn] using hA
    exact gives_of_calls (fn := Tryz.f48) Tryz.func48 (by kernel_rfl) (by kernel_rfl) (computusref01_Split.calls _ _ _ _ w hf) (fun _ => by simp [gd_some, rl_cons, rl_nil, rv_int, rv_bool, rv_str, rv_agg, rv_tup]) (fun _ h => h)
  · cases hc
def computusref15_RightStamp.f (k : Nat) (a0_0 : Int) (a0_1 : Int) : Option (Bool) := if a0_0 = 0 then ((computusref01_Split.f k a0_1).bind fun bt587 => ((computusref15_inside.f k bt587.1).bind fun t589 => (some t589))) else (if a0_0 = (-1) then (some (a0_1 == 0)) else (if a0_0 = 1 then (some (a0_1 == 0)) else (some false)))
theorem computusref15_RightStamp.mono : ∀ a0 a1 k, LeO (computusref15_RightStamp.f k a0 a1) (computusref15_RightStamp.f (k + 1) a0 a1) := by
  intro a0 a1 k
  unfold computusref15_RightStamp.f
  repeat' first
      | (with_reducible exact computusref01_Split.mono _ _)
      | (with_reducible exact computusref15_inside.mono _ _)
      | (with_reducible exact LeO.refl _)
      | (with_reducible exact LeO.none _)
      | (with_reducible refine LeO.ite ?_ ?_)
      | (with_reducible refine LeO.bind ?_ (fun _ => ?_))
      | exact computusref01_Split.mono _ _
      | exact computusref15_inside.mono _ _
      | exact LeO.none _
      | refine LeO.ite ?_ ?_
      | refine LeO.bind ?_ (fun _ => ?_)
set_option maxRecDepth 100000 in
theorem computusref15_RightStamp.vc (k : Nat) (a0_0 : Int) (a0_1 : Int) (K : AV → Prop) : afv PA Tryz.prog (tab [(48, computusref01_Split.con k), (49, computusref15_inside.con k)]) noLoops 2 13 [.agg [.int .i64 a0_0, .int .i64 a0_1]] K = (brc (a0_0 == 0) (brc (Option.isSome (computusref01_Split.f k a0_1)) (∀ (m0 : Int), m0 = Prod.fst (gd (computusref01_Split.f k a0_1)) → ∀ (m1 : Int), m1 = Prod.snd (gd (computusref01_Split.f k a0_1)) → brc (Option.isSome (computusref15_inside.f k m0)) (∀ (m2 : Bool), m2 = gd (computusref15_inside.f k m0) → K (AV.bool m2)) False) False) (brc (a0_0 == -1) (K (AV.bool (a0_1 == 0))) (brc (a0_0 == 1) (K (AV.bool (a0_1 == 0))) (K (AV.bool false))))) := by kernel_rfl
set_option maxHeartbeats 1000000 in
set_option maxRecDepth 100000 in
theorem computusref15_RightStamp.calls (k : Nat) (a0_0 : Int) (a0_1 : Int) (r : Bool) (w : World) (h : computusref15_RightStamp.f k a0_0 a0_1 = some r) :
    Calls Tryz.prog 13 #[.agg #[.int .i64 a0_0, .int .i64 a0_1]] w fun e w' => e = .returned (.bool r) ∧ Below w.heap.size w w' := by
  refine calls_of_vc (A := [.agg #[.int .i64 a0_0, .int .i64 a0_1]]) (v := .bool r) (tab_cons (computusref01_Split.cok k) (tab_cons (computusref15_inside.cok k) (tab_nil))) ((computusref15_RightStamp.vc k a0_0 a0_1 _).mpr ?_) (by simp [rl_cons, rl_nil, rv_int, rv_bool, rv_str, rv_agg, rv_fn]) (fun ρ V' hV => by simpa [rl_cons, rl_nil, rv_int, rv_bool, rv_str, rv_agg, rv_tup] using hV)
  unfold computusref15_RightStamp.f at h
  (try simp only [bne, Option.bind_eq_some_iff, ite_some_iff] at h)
  (try simp only [bne, brc_iff, wrap_i64])
  first
    | grind (splits := 60) [gd_some]
    | ((repeat' (first | (have or_ : Or _ _ := h; clear or_; rcases h with h | h) | (have or_ : Exists _ := h; clear or_; obtain ⟨_, h⟩ := h) | (have or_ : And _ _ := h; clear or_; obtain ⟨hq_, h⟩ := h))) <;> (try simp only [Option.some.injEq, Prod.mk.injEq, reduceCtorEq] at h) <;> (try subst_vars) <;> first | (simp_all [gd_some] <;> (try omega) <;> done) | grind (splits := 60) [gd_some])
    | (intros; subst_vars; simp_all [gd_some]; done)
noncomputable def computusref15_RightStamp.con (k : Nat) : Con
  | [.agg [.int .i64 a0_0, .int .i64 a0_1]] => some ((computusref15_RightStamp.f k a0_0 a0_1).isSome, .bool (gd (computusref15_RightStamp.f k a0_0 a0_1)))
  | _ => none
set_option maxRecDepth 100000 in
theorem computusref15_RightStamp.cok (k : Nat) : COk Tryz.prog 13 (computusref15_RightStamp.con k) := by
  intro args p v hc hp w A hA
  unfold computusref15_RightStamp.con at hc
  split at hc
  · rename_i a0_0 a0_1
    simp only [Option.some.injEq, Prod.mk.injEq] at hc
    obtain ⟨rfl, rfl⟩ := hc
    rcases hf : computusref15_RightStamp.f k a0_0 a0_1 with _ | r
    · rw [hf] at hp; cases hp
    obtain rfl : A = [.agg #[.int .i64 a0_0, .int .i64 a0_1]] := by simpa [rl_cons, rl_nil, rv_int, rv_bool, rv_str, rv_agg, rv_fn] using hA
    exact gives_of_calls (fn := Tryz.f13) Tryz.func13 (by kernel_rfl) (by kernel_rfl) (computusref15_RightStamp.calls _ _ _ _ w hf) (fun _ => by simp [gd_some, rl_cons, rl_nil, rv_int, rv_bool, rv_str, rv_agg, rv_tup]) (fun _ h => h)
  · cases hc
end Go.Proofs.YthkmckmfgglafaaGreat.P
namespace Go.Proofs.YthkmckmfgglafaaGreat.P
open Go.RowKit Go.Proofs.YthkmckmfgglafaaGreatW.PrintWords Go.Proofs.YthkmckmfgglafaaGreatW.PrintLast Go.Proofs.YthkmckmfgglafaaGreatW.PrintMore
open Go.Proofs.YthkmckmfgglafaaGreat.A
attribute [local go_sem] max2_int min2_int max_two min_two max_three min_three max_four min_four   -- for this text's walks alone
set_option linter.unusedVariables false
set_option linter.unusedSimpArgs false
def computusref15_order.j0 : Nat → Int → Int → Int → Int → Bool → Option (Int)
  | 0, _, _, _, _, _ => none
  | k + 1, x0, x1, x2, x3, x21 => if x21 = true then (some (-1)) else (if x0 > x1 then (some 1) else (if x2 > x3 then (some 1) else (some 0)))
def computusref15_order.f (k : Nat) (a0 : Int) (a1 : Int) (a2 : Int) (a3 : Int) : Option (Int) := if a0 < a1 then (computusref15_order.j0 k a0 a1 a2 a3 true) else (if a0 = a1 then (computusref15_order.j0 k a0 a1 a2 a3 (decide (a2 < a3))) else (computusref15_order.j0 k a0 a1 a2 a3 false))
theorem computusref15_order.mono_l : ∀ k, (∀ y0 y1 y2 y3 y4, LeO (computusref15_order.j0 k y0 y1 y2 y3 y4) (computusref15_order.j0 (k + 1) y0 y1 y2 y3 y4))
  | 0 => fun _ _ _ _ _ r h => by simp [computusref15_order.j0] at h
  | k + 1 => by
    have ih0 := computusref15_order.mono_l k
    · intro y0 y1 y2 y3 y4
      unfold computusref15_order.j0
      repeat' first
      | (with_reducible exact ih0 _ _ _ _ _)
      | (with_reducible exact LeO.refl _)
      | (with_reducible exact LeO.none _)
      | (with_reducible refine LeO.ite ?_ ?_)
      | (with_reducible refine LeO.bind ?_ (fun _ => ?_))
      | exact ih0 _ _ _ _ _
      | exact LeO.none _
      | refine LeO.ite ?_ ?_
      | refine LeO.bind ?_ (fun _ => ?_)
theorem computusref15_order.mono : ∀ a0 a1 a2 a3 k, LeO (computusref15_order.f k a0 a1 a2 a3) (computusref15_order.f (k + 1) a0 a1 a2 a3) := by
  intro a0 a1 a2 a3 k
  have ih0 := computusref15_order.mono_l k
  unfold computusref15_order.f
  repeat' first
      | (with_reducible exact ih0 _ _ _ _ _)
      | (with_reducible exact LeO.refl _)
      | (with_reducible exact LeO.none _)
      | (with_reducible refine LeO.ite ?_ ?_)
      | (with_reducible refine LeO.bind ?_ (fun _ => ?_))
      | exact ih0 _ _ _ _ _
      | exact LeO.none _
      | refine LeO.ite ?_ ?_
      | refine LeO.bind ?_ (fun _ => ?_)
set_option maxHeartbeats 8000000 in
set_option maxRecDepth 100000 in
theorem computusref15_order.calls (k : Nat) (a0 : Int) (a1 : Int) (a2 : Int) (a3 : Int) (r : Int) (w : World) (h : computusref15_order.f k a0 a1 a2 a3 = some r) :
    Calls Tryz.prog 42 #[.int .i64 a0, .int .i64 a1, .int .i64 a2, .int .i64 a3] w fun e w' => e = .returned (.int .i64 r) ∧ Drawn0 w w' := by
  have H : (if a0 < a1 then (computusref15_order.j0 k a0 a1 a2 a3 true) else (if a0 = a1 then (computusref15_order.j0 k a0 a1 a2 a3 (decide (a2 < a3))) else (computusref15_order.j0 k a0 a1 a2 a3 false))) = some r := h
  clear h
  have HC5 := Aside0.mk H
  clear H
  go_enter Tryz.func42, Tryz.ntmps42
  go_upto_region 1 with (fail)
  go_cut [21] (fun v21 wc => ∃ (kq : Nat) (x21_4 : Bool), v21 = .bool x21_4 ∧ Aside0 (computusref15_order.j0 kq a0 a1 a2 a3 x21_4 = some r) ∧ Aside0 (kq ≤ k) ∧ Drawn0 w wc)
  case first =>
    have H := HC5.out
    clear HC5
    by_cases c6 : a0 < a1
    · rw [if_pos c6] at H
      have c6b0 : decide (a0 < a1) = true := decide_eq_true c6
      clear c6
      (first | rw [c6b0] | (simp only [i64_w, i32_w]; rw [c6b0]) | skip)
      have H' := Aside0.mk H
      clear H
      go_wp2
      go_meet
      case rel => exact ⟨_, (true), (by first | rfl | (simp; done) | (simp [*]; done)), H', ⟨by first | omega | exact Nat.le_refl _⟩, by repeat (first | exact Drawn0.refl _ | apply Drawn0.step)⟩
    · rw [if_neg c6] at H
      have c6b0 : decide (a0 < a1) = false := decide_eq_false c6
      clear c6
      (first | rw [c6b0] | (simp only [i64_w, i32_w]; rw [c6b0]) | skip)
      by_cases c7 : a0 = a1
      · rw [if_pos c7] at H
        have c7b0 : (a0 == a1) = true := beq_iff_eq.mpr c7
        have c7b1 : (a0 != a1) = false := bne_eq_false_iff_eq.mpr c7
        clear c7
        have H' := Aside0.mk H
        clear H
        go_wp2
        go_meet
        case rel => exact ⟨_, (decide (a2 < a3)), (by first | rfl | (simp; done) | (simp [*]; done)), H', ⟨by first | omega | exact Nat.le_refl _⟩, by repeat (first | exact Drawn0.refl _ | apply Drawn0.step)⟩
      · rw [if_neg c7] at H
        have c7b0 : (a0 == a1) = false := beq_eq_false_iff_ne.mpr c7
        have c7b1 : (a0 != a1) = true := bne_iff_ne.mpr c7
        have H' := Aside0.mk H
        clear H
        go_wp2
        go_meet
        case rel => exact ⟨_, (false), (by first | rfl | (simp; done) | (simp [*]; done)), H', ⟨by first | omega | exact Nat.le_refl _⟩, by repeat (first | exact Drawn0.refl _ | apply Drawn0.step)⟩
  case rest =>
    clear HC5
    try clear p2
    try clear c4
    try clear c6
    try clear c6b0
    try clear c7
    try clear c7b0
    try clear c7b1
    obtain ⟨kq, x21_4, rfl, HA, HJ4, ⟨mc4, rfl⟩⟩ := hcut
    cases kq with
    | zero => exact absurd HA.out (by simp [computusref15_order.j0])
    | succ kj4 =>
      have H := HA.out
      clear HA
      simp only [computusref15_order.j0] at H
      by_cases c8 : x21_4 = true
      · subst c8
        have H1 : (some (-1)) = some r := by rw [if_pos rfl] at H; exact H
        clear H
        have H := H1
        clear H1
        obtain rfl := Option.some.inj H
        go_wp2
        go_ret
        exact ⟨by first | rfl | (simp; done) | (simp [*]; done), by repeat (first | exact Drawn0.refl _ | apply Drawn0.step)⟩
      · replace c8 := Bool.eq_false_iff.mpr c8
        subst c8
        have H1 : (if a0 > a1 then (some 1) else (if a2 > a3 then (some 1) else (some 0))) = some r := by rw [if_neg (show ¬ (false = true) by decide)] at H; exact H
        clear H
        have H := H1
        clear H1
        by_cases c9 : a0 > a1
        · rw [if_pos c9] at H
          have c9b0 : decide (a1 < a0) = true := decide_eq_true c9
          clear c9
          obtain rfl := Option.some.inj H
          go_wp2
          go_ret
          exact ⟨by first | rfl | (simp; done) | (simp [*]; done), by repeat (first | exact Drawn0.refl _ | apply Drawn0.step)⟩
        · rw [if_neg c9] at H
          have c9b0 : decide (a1 < a0) = false := decide_eq_false c9
          clear c9
          by_cases c10 : a2 > a3
          · rw [if_pos c10] at H
            have c10b0 : decide (a3 < a2) = true := decide_eq_true c10
            clear c10
            obtain rfl := Option.some.inj H
            go_wp2
            go_ret
            exact ⟨by first | rfl | (simp; done) | (simp [*]; done), by repeat (first | exact Drawn0.refl _ | apply Drawn0.step)⟩
          · rw [if_neg c10] at H
            have c10b0 : decide (a3 < a2) = false := decide_eq_false c10
            clear c10
            obtain rfl := Option.some.inj H
            go_wp2
            go_ret
            exact ⟨by first | rfl | (simp; done) | (simp [*]; done), by repeat (first | exact Drawn0.refl _ | apply Drawn0.step)⟩
noncomputable def computusref15_order.con (k : Nat) : Con
  | [.int .i64 a0, .int .i64 a1, .int .i64 a2, .int .i64 a3] => some ((computusref15_order.f k a0 a1 a2 a3).isSome, .int .i64 (gd (computusref15_order.f k a0 a1 a2 a3)))
  | _ => none
set_option maxRecDepth 100000 in
theorem computusref15_order.cok (k : Nat) : COk Tryz.prog 42 (computusref15_order.con k) := by
  intro args p v hc hp w A hA
  unfold computusref15_order.con at hc
  split at hc
  · rename_i a0 a1 a2 a3
    simp only [Option.some.injEq, Prod.mk.injEq] at hc
    obtain ⟨rfl, rfl⟩ := hc
    rcases hf : computusref15_order.f k a0 a1 a2 a3 with _ | r
    · rw [hf] at hp; cases hp
    obtain rfl : A = [.int .i64 a0, .int .i64 a1, .int .i64 a2, .int .i64 a3] := by simpa [rl_cons, rl_nil, rv_int, rv_bool, rv_str, rv_agg, rv_fn] using hA
    exact gives_of_calls (fn := Tryz.f42) Tryz.func42 (by kernel_rfl) (by kernel_rfl) (computusref15_order.calls _ _ _ _ _ _ w hf) (fun _ => by simp [gd_some, rl_cons, rl_nil, rv_int, rv_bool, rv_str, rv_agg, rv_tup]) (fun _ h => h.below)
  · cases hc
def computusref15_CmpStamp.f (k : Nat) (a0_0 : Int) (a0_1 : Int) (a1_0 : Int) (a1_1 : Int) : Option (Int) := (computusref15_RightStamp.f k a0_0 a0_1).bind fun t592 => (if t592 = true then ((computusref15_RightStamp.f k a1_0 a1_1).bind fun t593 => (if t593 = true then ((computusref15_order.f k a0_0 a1_0 a0_1 a1_1).bind fun t594 => (some t594)) else (some 0))) else (some 0))
theorem computusref15_CmpStamp.mono : ∀ a0 a1 a2 a3 k, LeO (computusref15_CmpStamp.f k a0 a1 a2 a3) (computusref15_CmpStamp.f (k + 1) a0 a1 a2 a3) := by
  intro a0 a1 a2 a3 k
  unfold computusref15_CmpStamp.f
  repeat' first
      | (with_reducible exact computusref15_RightStamp.mono _ _ _)
      | (with_reducible exact computusref15_order.mono _ _ _ _ _)
      | (with_reducible exact LeO.refl _)
      | (with_reducible exact LeO.none _)
      | (with_reducible refine LeO.ite ?_ ?_)
      | (with_reducible refine LeO.bind ?_ (fun _ => ?_))
      | exact computusref15_RightStamp.mono _ _ _
      | exact computusref15_order.mono _ _ _ _ _
      | exact LeO.none _
      | refine LeO.ite ?_ ?_
      | refine LeO.bind ?_ (fun _ => ?_)
set_option maxRecDepth 100000 in
theorem computusref15_CmpStamp.vc (k : Nat) (a0_0 : Int) (a0_1 : Int) (a1_0 : Int) (a1_1 : Int) (K : AV → Prop) : afv PA Tryz.prog (tab [(13, computusref15_RightStamp.con k), (42, computusref15_order.con k)]) noLoops 2 11 [.agg [.int .i64 a0_0, .int .i64 a0_1], .agg [.int .i64 a1_0, .int .i64 a1_1]] K = (brc (Option.isSome (computusref15_RightStamp.f k a0_0 a0_1)) (∀ (m0 : Bool), m0 = gd (computusref15_RightStamp.f k a0_0 a0_1) → brc (!m0) (K (AV.int IntKind.i64 0)) (brc (Option.isSome (computusref15_RightStamp.f k a1_0 a1_1)) (∀ (m1 : Bool), m1 = gd (computusref15_RightStamp.f k a1_0 a1_1) → brc (!m1) (K (AV.int IntKind.i64 0)) (brc (Option.isSome (computusref15_order.f k a0_0 a1_0 a0_1 a1_1)) (∀ (m2 : Int), m2 = gd (computusref15_order.f k a0_0 a1_0 a0_1 a1_1) → K (AV.int IntKind.i64 m2)) False)) False)) False) := by kernel_rfl
set_option maxHeartbeats 1000000 in
set_option maxRecDepth 100000 in
theorem computusref15_CmpStamp.calls (k : Nat) (a0_0 : Int) (a0_1 : Int) (a1_0 : Int) (a1_1 : Int) (r : Int) (w : World) (h : computusref15_CmpStamp.f k a0_0 a0_1 a1_0 a1_1 = some r) :
    Calls Tryz.prog 11 #[.agg #[.int .i64 a0_0, .int .i64 a0_1], .agg #[.int .i64 a1_0, .int .i64 a1_1]] w fun e w' => e = .returned (.int .i64 r) ∧ Below w.heap.size w w' := by
  refine calls_of_vc (A := [.agg #[.int .i64 a0_0, .int .i64 a0_1], .agg #[.int .i64 a1_0, .int .i64 a1_1]]) (v := .int .i64 r) (tab_cons (computusref15_RightStamp.cok k) (tab_cons (computusref15_order.cok k) (tab_nil))) ((computusref15_CmpStamp.vc k a0_0 a0_1 a1_0 a1_1 _).mpr ?_) (by simp [rl_cons, rl_nil, rv_int, rv_bool, rv_str, rv_agg, rv_fn]) (fun ρ V' hV => by simpa [rl_cons, rl_nil, rv_int, rv_bool, rv_str, rv_agg, rv_tup] using hV)
  unfold computusref15_CmpStamp.f at h
  (try simp only [bne, Option.bind_eq_some_iff, ite_some_iff] at h)
  (try simp only [bne, brc_iff, wrap_i64])
  first
    | grind (splits := 60) [gd_some]
    | ((repeat' (first | (have or_ : Or _ _ := h; clear or_; rcases h with h | h) | (have or_ : Exists _ := h; clear or_; obtain ⟨_, h⟩ := h) | (have or_ : And _ _ := h; clear or_; obtain ⟨hq_, h⟩ := h))) <;> (try simp only [Option.some.injEq, Prod.mk.injEq, reduceCtorEq] at h) <;> (try subst_vars) <;> first | (simp_all [gd_some] <;> (try omega) <;> done) | grind (splits := 60) [gd_some])
    | (intros; subst_vars; simp_all [gd_some]; done)
noncomputable def computusref15_CmpStamp.con (k : Nat) : Con
  | [.agg [.int .i64 a0_0, .int .i64 a0_1], .agg [.int .i64 a1_0, .int .i64 a1_1]] => some ((computusref15_CmpStamp.f k a0_0 a0_1 a1_0 a1_1).isSome, .int .i64 (gd (computusref15_CmpStamp.f k a0_0 a0_1 a1_0 a1_1)))
  | _ => none
set_option maxRecDepth 100000 in
theorem computusref15_CmpStamp.cok (k : Nat) : COk Tryz.prog 11 (computusref15_CmpStamp.con k) := by
  intro args p v hc hp w A hA
  unfold computusref15_CmpStamp.con at hc
  split at hc
  · rename_i a0_0 a0_1 a1_0 a1_1
    simp only [Option.some.injEq, Prod.mk.injEq] at hc
    obtain ⟨rfl, rfl⟩ := hc
    rcases hf : computusref15_CmpStamp.f k a0_0 a0_1 a1_0 a1_1 with _ | r
    · rw [hf] at hp; cases hp
    obtain rfl : A = [.agg #[.int .i64 a0_0, .int .i64 a0_1], .agg #[.int .i64 a1_0, .int .i64 a1_1]] := by simpa [rl_cons, rl_nil, rv_int, rv_bool, rv_str, rv_agg, rv_fn] using hA
    exact gives_of_calls (fn := Tryz.f11) Tryz.func11 (by kernel_rfl) (by kernel_rfl) (computusref15_CmpStamp.calls _ _ _ _ _ _ w hf) (fun _ => by simp [gd_some, rl_cons, rl_nil, rv_int, rv_bool, rv_str, rv_agg, rv_tup]) (fun _ h => h)
  · cases hc
theorem computusref15_CmpStamp.up {k : Nat} {a0_0 : Int} {a0_1 : Int} {a1_0 : Int} {a1_1 : Int} {r : Int} (h : computusref15_CmpStamp.f k a0_0 a0_1 a1_0 a1_1 = some r) : computusref15_CmpStamp.f (k + 1) a0_0 a0_1 a1_0 a1_1 = some r := computusref15_CmpStamp.mono a0_0 a0_1 a1_0 a1_1 k _ h
theorem computusref15_CmpStamp.le {a0_0 : Int} {a0_1 : Int} {a1_0 : Int} {a1_1 : Int} {r : Int} {k n : Nat} (h : computusref15_CmpStamp.f k a0_0 a0_1 a1_0 a1_1 = some r) (hk : k ≤ n) : computusref15_CmpStamp.f n a0_0 a0_1 a1_0 a1_1 = some r := by
  induction hk with
  | refl => exact h
  | step _ ih => exact computusref15_CmpStamp.up ih
end Go.Proofs.YthkmckmfgglafaaGreat.P
namespace Go.Proofs.YthkmckmfgglafaaGreat.P
open Go.RowKit Go.Proofs.YthkmckmfgglafaaGreatW.PrintWords Go.Proofs.YthkmckmfgglafaaGreatW.PrintLast Go.Proofs.YthkmckmfgglafaaGreatW.PrintMore
open Go.Proofs.YthkmckmfgglafaaGreat.A
attribute [local go_sem] max2_int min2_int max_two min_two max_three min_three max_four min_four   -- for this text's walks alone
set_option linter.unusedVariables false
set_option linter.unusedSimpArgs false
attribute [local go_sem high] eqA23
def computuslaw20_OpsLess.j0 : Nat → Bool → Int → Int → Option (Bool)
  | 0, _, _, _ => none
  | k + 1, x42, x596000, x596001 => if x42 = true then (some false) else ((ops_Trunc.f k (⟨#[121, 101, 97, 114]⟩ : ByteArray) x596000 x596001).bind fun bt606 => ((ops_Trunc.f k (⟨#[109, 111, 110, 116, 104]⟩ : ByteArray) x596000 x596001).bind fun bt610 => ((ops_Trunc.f k (⟨#[100, 97, 121]⟩ : ByteArray) x596000 x596001).bind fun bt614 => (if bt606.2.2 = 0 then (if bt610.2.2 = 0 then (if bt614.2.2 = 0 then ((computusref15_CmpStamp.f k bt606.1 bt606.2.1 bt610.1 bt610.2.1).bind fun t618 => (if t618 ≤ 0 then ((computusref15_CmpStamp.f k bt610.1 bt610.2.1 bt614.1 bt614.2.1).bind fun t619 => (if t619 ≤ 0 then ((computuslaw20_known.f).bind fun t620 => (some t620)) else (some false))) else (some false))) else (some false)) else (some false)) else (some false)))))
def computuslaw20_OpsLess.f (k : Nat) (a0 : ByteArray) (a1_0 : Int) (a1_1 : Int) : Option (Bool) := (ops_Trunc.f k a0 a1_0 a1_1).bind fun bt596 => (if bt596.2.2 = 0 then ((ops_Trunc.f k a0 bt596.1 bt596.2.1).bind fun bt601 => (if bt601.2.2 = 0 then (if (!(bt601.1 == bt596.1) || (!(bt601.2.1 == bt596.2.1))) = true then (computuslaw20_OpsLess.j0 k true a1_0 a1_1) else ((computusref15_CmpStamp.f k bt596.1 bt596.2.1 a1_0 a1_1).bind fun t605 => (computuslaw20_OpsLess.j0 k (decide (t605 > 0)) a1_0 a1_1))) else (computuslaw20_OpsLess.j0 k true a1_0 a1_1))) else ((computuslaw20_known.f).bind fun t600 => (some t600)))
set_option maxRecDepth 100000 in
theorem computuslaw20_OpsLess.vc (k : Nat) (a0 : ByteArray) (a1_0 : Int) (a1_1 : Int) (K : AV → Prop) : afv PA Tryz.prog (tab [(9, ops_Trunc.con k), (10, computuslaw20_known.con), (11, computusref15_CmpStamp.con k)]) noLoops 2 3 [.str a0, .agg [.int .i64 a1_0, .int .i64 a1_1]] K = (brc (Option.isSome (ops_Trunc.f k a0 a1_0 a1_1)) (∀ (m0 : Int), m0 = Prod.fst (gd (ops_Trunc.f k a0 a1_0 a1_1)) → ∀ (m1 : Int), m1 = Prod.fst (Prod.snd (gd (ops_Trunc.f k a0 a1_0 a1_1))) → ∀ (m2 : Int), m2 = Prod.snd (Prod.snd (gd (ops_Trunc.f k a0 a1_0 a1_1))) → brc (m2 != 0) (brc (decide (computuslaw20_known.f = some true)) (∀ (m3 : Bool), m3 = true → K (AV.bool m3)) False) (brc (Option.isSome (ops_Trunc.f k a0 m0 m1)) (∀ (m3 : Int), m3 = Prod.fst (gd (ops_Trunc.f k a0 m0 m1)) → ∀ (m4 : Int), m4 = Prod.fst (Prod.snd (gd (ops_Trunc.f k a0 m0 m1))) → ∀ (m5 : Int), m5 = Prod.snd (Prod.snd (gd (ops_Trunc.f k a0 m0 m1))) → brc (m5 != 0) (K (AV.bool false)) (brc (!(m3 == m0 && (m4 == m1 && true))) (K (AV.bool false)) (brc (Option.isSome (computusref15_CmpStamp.f k m0 m1 a1_0 a1_1)) (∀ (m6 : Int), m6 = gd (computusref15_CmpStamp.f k m0 m1 a1_0 a1_1) → brc (decide (m6 > 0)) (K (AV.bool false)) (brc (Option.isSome (ops_Trunc.f k { data := #[121, 101, 97, 114] } a1_0 a1_1)) (∀ (m7 : Int), m7 = Prod.fst (gd (ops_Trunc.f k { data := #[121, 101, 97, 114] } a1_0 a1_1)) → ∀ (m8 : Int), m8 = Prod.fst (Prod.snd (gd (ops_Trunc.f k { data := #[121, 101, 97, 114] } a1_0 a1_1))) → ∀ (m9 : Int), m9 = Prod.snd (Prod.snd (gd (ops_Trunc.f k { data := #[121, 101, 97, 114] } a1_0 a1_1))) → brc (Option.isSome (ops_Trunc.f k { data := #[109, 111, 110, 116, 104] } a1_0 a1_1)) (∀ (m10 : Int), m10 = Prod.fst (gd (ops_Trunc.f k { data := #[109, 111, 110, 116, 104] } a1_0 a1_1)) → ∀ (m11 : Int), m11 = Prod.fst (Prod.snd (gd (ops_Trunc.f k { data := #[109, 111, 110, 116, 104] } a1_0 a1_1))) → ∀ (m12 : Int), m12 = Prod.snd (Prod.snd (gd (ops_Trunc.f k { data := #[109, 111, 110, 116, 104] } a1_0 a1_1))) → brc (Option.isSome (ops_Trunc.f k { data := #[100, 97, 121] } a1_0 a1_1)) (∀ (m13 : Int), m13 = Prod.fst (gd (ops_Trunc.f k { data := #[100, 97, 121] } a1_0 a1_1)) → ∀ (m14 : Int), m14 = Prod.fst (Prod.snd (gd (ops_Trunc.f k { data := #[100, 97, 121] } a1_0 a1_1))) → ∀ (m15 : Int), m15 = Prod.snd (Prod.snd (gd (ops_Trunc.f k { data := #[100, 97, 121] } a1_0 a1_1))) → brc (m9 == 0) (brc (m12 == 0) (brc (m15 == 0) (brc (Option.isSome (computusref15_CmpStamp.f k m7 m8 m10 m11)) (∀ (m16 : Int), m16 = gd (computusref15_CmpStamp.f k m7 m8 m10 m11) → brc (decide (m16 ≤ 0)) (brc (Option.isSome (computusref15_CmpStamp.f k m10 m11 m13 m14)) (∀ (m17 : Int), m17 = gd (computusref15_CmpStamp.f k m10 m11 m13 m14) → brc (decide (m17 ≤ 0)) (brc (decide (computuslaw20_known.f = some true)) (∀ (m18 : Bool), m18 = true → K (AV.bool m18)) False) (K (AV.bool false))) False) (K (AV.bool false))) False) (K (AV.bool false))) (K (AV.bool false))) (K (AV.bool false))) False) False) False)) False))) False)) False) := by kernel_rfl
set_option maxHeartbeats 1000000 in
set_option maxRecDepth 100000 in
theorem computuslaw20_OpsLess.calls (k : Nat) (a0 : ByteArray) (a1_0 : Int) (a1_1 : Int) (r : Bool) (w : World) (h : computuslaw20_OpsLess.f k a0 a1_0 a1_1 = some r) (hR : r = true) :
    Calls Tryz.prog 3 #[.string a0, .agg #[.int .i64 a1_0, .int .i64 a1_1]] w fun e w' => e = .returned (.bool r) ∧ Below w.heap.size w w' := by
  refine calls_of_vc (A := [.string a0, .agg #[.int .i64 a1_0, .int .i64 a1_1]]) (v := .bool r) (tab_cons (ops_Trunc.cok k) (tab_cons (computuslaw20_known.cok) (tab_cons (computusref15_CmpStamp.cok k) (tab_nil)))) ((computuslaw20_OpsLess.vc k a0 a1_0 a1_1 _).mpr ?_) (by simp [rl_cons, rl_nil, rv_int, rv_bool, rv_str, rv_agg, rv_fn]) (fun ρ V' hV => by simpa [rl_cons, rl_nil, rv_int, rv_bool, rv_str, rv_agg, rv_tup] using hV)
  unfold computuslaw20_OpsLess.f at h
  cases k with
  | zero =>
    (try simp only [computuslaw20_OpsLess.j0] at h)
    (try simp only [bne, Option.bind_eq_some_iff, ite_some_iff] at h)
    (try simp only [bne, brc_iff, wrap_i64])
    first
      | grind (splits := 60) [gd_some]
      | ((repeat' (first | (have or_ : Or _ _ := h; clear or_; rcases h with h | h) | (have or_ : Exists _ := h; clear or_; obtain ⟨_, h⟩ := h) | (have or_ : And _ _ := h; clear or_; obtain ⟨hq_, h⟩ := h))) <;> (try simp only [Option.some.injEq, Prod.mk.injEq, reduceCtorEq] at h) <;> (try subst_vars) <;> first | (simp_all [gd_some] <;> (try omega) <;> rcases hb0 : decide (computuslaw20_known.f = some true) with _ | _ <;> simp_all [gd_some] <;> done) | grind (splits := 60) [gd_some])
      | (intros; subst_vars; simp_all [gd_some]; done)
  | succ k =>
    (try simp only [computuslaw20_OpsLess.j0] at h)
    (try simp only [bne, Option.bind_eq_some_iff, ite_some_iff] at h)
    (try simp only [bne, brc_iff, wrap_i64])
    first
      | grind (splits := 60) [gd_some, ops_Trunc.up, computusref15_CmpStamp.up]
      | ((repeat' (first | (have or_ : Or _ _ := h; clear or_; rcases h with h | h) | (have or_ : Exists _ := h; clear or_; obtain ⟨_, h⟩ := h) | (have or_ : And _ _ := h; clear or_; obtain ⟨hq_, h⟩ := h; (try first | replace hq_ := ops_Trunc.le (n := k + 1) hq_ (by omega) | replace hq_ := computusref15_CmpStamp.le (n := k + 1) hq_ (by omega))))) <;> (try simp only [Option.some.injEq, Prod.mk.injEq, reduceCtorEq] at h) <;> (try subst_vars) <;> first | (simp_all [gd_some] <;> (try omega) <;> rcases hb0 : decide (computuslaw20_known.f = some true) with _ | _ <;> simp_all [gd_some] <;> done) | grind (splits := 60) [gd_some, ops_Trunc.up, computusref15_CmpStamp.up])
      | (intros; subst_vars; simp_all [gd_some]; done)
/-- THE ONE PURE STATEMENT of computuslaw20_OpsLess: yours. -/
def computuslaw20_OpsLess.Pure : Prop := ∀ (a0 : ByteArray) (a1_0 : Int) (a1_1 : Int), a0.size ≤ 140737488351232 → (Lit.int .i64 a1_0).wf = true → (Lit.int .i64 a1_1).wf = true → ∃ k, computuslaw20_OpsLess.f k a0 a1_0 a1_1 = some true
theorem computuslaw20_OpsLess.walk (P : computuslaw20_OpsLess.Pure) (a0 : ByteArray) (a1_0 : Int) (a1_1 : Int) (w : World) (w0 : a0.size ≤ 140737488351232) (w1_0 : (Lit.int .i64 a1_0).wf = true) (w1_1 : (Lit.int .i64 a1_1).wf = true) :
    Calls Tryz.prog 3 #[.string a0, .agg #[.int .i64 a1_0, .int .i64 a1_1]] w fun e w' => e = .returned (.bool true) ∧ Below w.heap.size w w' := by
  obtain ⟨k, h⟩ := P a0 a1_0 a1_1 w0 w1_0 w1_1
  refine (computuslaw20_OpsLess.calls k a0 a1_0 a1_1 true w h rfl).mono ?_
  rintro e w' ⟨rfl, hd⟩
  exact ⟨rfl, hd⟩
end Go.Proofs.YthkmckmfgglafaaGreat.P
namespace Go.Proofs.YthkmckmfgglafaaGreat.Civ
set_option linter.unusedVariables false
set_option linter.unusedSimpArgs false
open Go.RowKit Go.Proofs.YthkmckmfgglafaaGreatW.PrintWords Go.Proofs.YthkmckmfgglafaaGreatW.PrintLast Go.Proofs.YthkmckmfgglafaaGreatW.PrintMore
theorem w64 {x : Int} (h1 : -9223372036854775808 ≤ x) (h2 : x ≤ 9223372036854775807) : wrap64 x = x := by unfold wrap64; omega
/-- A number is one of 64 bits. -/
def I64 (x : Int) : Prop := -9223372036854775808 ≤ x ∧ x ≤ 9223372036854775807
theorem i64_of_wf {x : Int} (h : (Lit.int .i64 x).wf = true) : I64 x := by
  simp only [Lit.wf, IntKind.min, IntKind.max, IntKind.signed, IntKind.bits, Bool.and_eq_true, decide_eq_true_eq, if_true] at h
  exact h
theorem wrap_i64 (x : Int) : I64 (wrap64 x) := by unfold I64 wrap64; omega
theorem w64_of {x : Int} (h : I64 x) : wrap64 x = x := w64 h.1 h.2
theorem td_pos {a b : Int} (ha : 0 ≤ a) : Int.tdiv a b = a / b := Int.tdiv_eq_ediv_of_nonneg ha
theorem tm_pos {a b : Int} (ha : 0 ≤ a) : Int.tmod a b = a % b := Int.tmod_eq_emod_of_nonneg ha
theorem td_neg {a b : Int} (ha : a ≤ 0) : Int.tdiv a b = -((-a) / b) := by
  have : Int.tdiv (-a) b = (-a) / b := Int.tdiv_eq_ediv_of_nonneg (by omega)
  rw [← this, Int.neg_tdiv, Int.neg_neg]
theorem tm_neg {a b : Int} (ha : a ≤ 0) : Int.tmod a b = -((-a) % b) := by
  have : Int.tmod (-a) b = (-a) % b := Int.tmod_eq_emod_of_nonneg (by omega)
  rw [← this, Int.neg_tmod, Int.neg_neg]
/-- Cut division against floored division. -/
theorem cut_floor (a : Int) {b : Int} (hb : 0 < b) : (Int.tmod a b < 0 → Int.tdiv a b = a / b + 1 ∧ Int.tmod a b = a % b - b ∧ 0 < a % b) ∧ (¬ Int.tmod a b < 0 → Int.tdiv a b = a / b ∧ Int.tmod a b = a % b) := by
  rcases Int.le_total 0 a with h | h
  · rw [td_pos h, tm_pos h]
    have := Int.emod_nonneg a (Int.ne_of_gt hb)
    exact ⟨fun h => by omega, fun _ => ⟨rfl, rfl⟩⟩
  · rw [td_neg h, tm_neg h]
    have e := Int.mul_ediv_add_emod (-a) b
    have h1 := Int.emod_nonneg (-a) (Int.ne_of_gt hb)
    have h2 := Int.emod_lt_of_pos (-a) hb
    generalize (-a) / b = q at *
    generalize (-a) % b = r at *
    constructor
    · intro hr
      have := (Int.ediv_emod_unique (a := a) (b := b) (r := b - r) (q := -q - 1) hb).2 ⟨by rw [Int.mul_sub, Int.mul_neg]; omega, by omega, by omega⟩
      omega
    · intro hr
      have := (Int.ediv_emod_unique (a := a) (b := b) (r := 0) (q := -q) hb).2 ⟨by rw [Int.mul_neg]; omega, by omega, by omega⟩
      omega
theorem tmod_zero_iff (a : Int) {b : Int} (hb : 0 < b) : Int.tmod a b = 0 ↔ a % b = 0 := by
  have c := cut_floor a hb
  have h1 := Int.emod_nonneg a (Int.ne_of_gt hb)
  have h2 := Int.emod_lt_of_pos a hb
  by_cases h : Int.tmod a b < 0
  · have := (c.1 h).2.1; have := (c.1 h).2.2; omega
  · have := (c.2 h).2; omega
theorem ediv_i64 {a b : Int} (ha : I64 a) (hb : 0 < b) : -9223372036854775808 ≤ a / b ∧ a / b ≤ 9223372036854775807 := by
  obtain ⟨h1, h2⟩ := ha
  have e := Int.mul_ediv_add_emod a b
  have g1 := Int.emod_nonneg a (Int.ne_of_gt hb)
  have g2 := Int.emod_lt_of_pos a hb
  constructor
  · rw [Int.le_ediv_iff_mul_le hb]
    have : -9223372036854775808 * b ≤ -9223372036854775808 * 1 := Int.mul_le_mul_of_nonpos_left (by omega) (by omega)
    omega
  · rcases Int.lt_or_le a 0 with h | h
    · have : a / b < 0 := Int.ediv_lt_of_lt_mul hb (by omega)
      omega
    · have := Int.ediv_le_self b h; omega
theorem Ev.at1 {α : Type} {g : Nat → Option α} {r : α} (h : ∀ k, g (k + 1) = some r) : Ev g r :=
  ⟨1, fun k hk => by obtain ⟨m, rfl⟩ : ∃ m, k = m + 1 := ⟨k - 1, by omega⟩; exact h m⟩
theorem Ev.at2 {α : Type} {g : Nat → Option α} {r : α} (h : ∀ k, g (k + 2) = some r) : Ev g r :=
  ⟨2, fun k hk => by obtain ⟨m, rfl⟩ : ∃ m, k = m + 2 := ⟨k - 2, by omega⟩; exact h m⟩
theorem Ev.cast {α : Type} {g : Nat → Option α} {r r' : α} (h : Ev g r) (e : r = r') : Ev g r' := e ▸ h
/-- What is told without rounds, and then what hangs on rounds. -/
theorem Ev.bind0 {α β : Type} {g : Option α} {f : Nat → α → Option β} {a : α} {r : β} (h : g = some a) (k : Ev (fun n => f n a) r) : Ev (fun n => g.bind (f n)) r := by
  subst h; exact k
/-- One round, as it stands. -/
theorem Ev.succ {α : Type} {g : Nat → Option α} {r : α} (h : Ev (fun k => g (k + 1)) r) : Ev g r := Ev.step (f := fun k => g (k + 1)) (fun _ => rfl) h
theorem Ev.pos {α : Type} {c : Prop} [Decidable c] {f g : Nat → Option α} {r : α} (h : c) (k : Ev f r) : Ev (fun n => if c then f n else g n) r := by
  simpa only [if_pos h] using k
theorem Ev.neg {α : Type} {c : Prop} [Decidable c] {f g : Nat → Option α} {r : α} (h : ¬ c) (k : Ev g r) : Ev (fun n => if c then f n else g n) r := by
  simpa only [if_neg h] using k
end Go.Proofs.YthkmckmfgglafaaGreat.Civ
namespace Go.Proofs.YthkmckmfgglafaaGreat.Civ
set_option linter.unusedVariables false
set_option linter.unusedSimpArgs false
/-- One if a year is a leap year. -/
def lp (y : Int) : Int := if y % 4 = 0 ∧ (y % 100 ≠ 0 ∨ y % 400 = 0) then 1 else 0
theorem lp_01 (y : Int) : 0 ≤ lp y ∧ lp y ≤ 1 := by unfold lp; split <;> omega
/-- Days from January 1, 2000 to January 1 of a year. -/
def dby (y : Int) : Int := 365 * (y - 2000) + (y - 1) / 4 - (y - 1) / 100 + (y - 1) / 400 - 484
theorem dby_succ (y : Int) : dby (y + 1) = dby y + 365 + lp y := by
  unfold dby lp; split <;> omega
theorem dby_era (y k : Int) : dby (y + 400 * k) = dby y + 146097 * k := by unfold dby; omega
/-- Between two years there are 365 days at least for each year. -/
theorem dby_far (a b : Int) (h : a ≤ b) : dby a + 365 * (b - a) ≤ dby b := by unfold dby; omega
theorem dby_near (a b : Int) (h : a ≤ b) : dby b ≤ dby a + 366 * (b - a) := by unfold dby; omega
theorem year_unique {a b n : Int} (h1 : dby a ≤ n) (h2 : n < dby (a + 1)) (h3 : dby b ≤ n) (h4 : n < dby (b + 1)) : a = b := by
  rcases Int.lt_trichotomy a b with h | h | h
  · have := dby_far (a + 1) b (by omega); omega
  · exact h
  · have := dby_far (b + 1) a (by omega); omega
/-- How many days a month has. -/
def mlen (y m : Int) : Int := if m < 1 ∨ 12 < m then 0 else if m = 2 then 28 + lp y else if m = 4 ∨ m = 6 ∨ m = 9 ∨ m = 11 then 30 else 31
/-- Days of a year ahead of a month. -/
def cum (y m : Int) : Int :=
  if m ≤ 1 then 0 else if m = 2 then 31 else
  (if m = 3 then 59 else if m = 4 then 90 else if m = 5 then 120 else if m = 6 then 151 else if m = 7 then 181 else if m = 8 then 212 else if m = 9 then 243 else if m = 10 then 273 else if m = 11 then 304 else if m = 12 then 334 else 365) + lp y
theorem twelve {m : Int} (h1 : 1 ≤ m) (h2 : m ≤ 12) : m = 1 ∨ m = 2 ∨ m = 3 ∨ m = 4 ∨ m = 5 ∨ m = 6 ∨ m = 7 ∨ m = 8 ∨ m = 9 ∨ m = 10 ∨ m = 11 ∨ m = 12 := by omega
theorem cum_succ (y m : Int) (h1 : 1 ≤ m) (h2 : m ≤ 12) : cum y (m + 1) = cum y m + mlen y m := by
  have hl := lp_01 y
  rcases twelve h1 h2 with e | e | e | e | e | e | e | e | e | e | e | e <;> subst e <;> simp [cum, mlen] <;> omega
theorem cum_end (y m : Int) (h : 12 < m) : cum y m = 365 + lp y := by
  unfold cum
  rw [if_neg (by omega), if_neg (by omega), if_neg (by omega), if_neg (by omega), if_neg (by omega), if_neg (by omega), if_neg (by omega), if_neg (by omega), if_neg (by omega), if_neg (by omega), if_neg (by omega), if_neg (by omega)]
theorem cum_one (y : Int) : cum y 1 = 0 := rfl
theorem mlen_bd (y m : Int) (h1 : 1 ≤ m) (h2 : m ≤ 12) : 28 ≤ mlen y m ∧ mlen y m ≤ 31 := by
  have hl := lp_01 y
  rcases twelve h1 h2 with e | e | e | e | e | e | e | e | e | e | e | e <;> subst e <;> simp [mlen] <;> omega
theorem mlen_out (y m : Int) (h : m < 1 ∨ 12 < m) : mlen y m = 0 := by unfold mlen; rw [if_pos h]
theorem mlen_up (y m : Int) : 0 ≤ mlen y m ∧ mlen y m ≤ 31 := by
  by_cases h : m < 1 ∨ 12 < m
  · rw [mlen_out y m h]; omega
  · have := mlen_bd y m (by omega) (by omega); omega
theorem cum_step (y a b : Int) (h1 : 1 ≤ a) (h : a < b) (h2 : b ≤ 12) : cum y a + mlen y a ≤ cum y b := by
  have hl := lp_01 y
  rcases twelve h1 (by omega) with e | e | e | e | e | e | e | e | e | e | e | e <;> subst e <;>
  rcases twelve (by omega) h2 with e | e | e | e | e | e | e | e | e | e | e | e <;> subst e <;> simp [cum, mlen] <;> omega
theorem cum_bd (y m : Int) (h1 : 1 ≤ m) (h2 : m ≤ 12) : 0 ≤ cum y m ∧ cum y m + mlen y m ≤ 365 + lp y := by
  have hl := lp_01 y
  rcases twelve h1 h2 with e | e | e | e | e | e | e | e | e | e | e | e <;> subst e <;> simp [cum, mlen] <;> omega
/-- A date's day. -/
def dnum (y m d : Int) : Int := dby y + cum y m + d - 1
/-- A day is that of a date. -/
structure IsDate (n y m d : Int) : Prop where
  m1 : 1 ≤ m
  m12 : m ≤ 12
  d1 : 1 ≤ d
  dl : d ≤ mlen y m
  num : dnum y m d = n
theorem IsDate.year {n y m d : Int} (h : IsDate n y m d) : dby y ≤ n ∧ n < dby (y + 1) := by
  have hs := dby_succ y
  have hc := cum_bd y m h.m1 h.m12
  have h1 := h.d1
  have h2 := h.dl
  have h3 := h.num
  unfold dnum at h3
  omega
theorem IsDate.unique {n y m d y' m' d' : Int} (h : IsDate n y m d) (k : IsDate n y' m' d') : y = y' ∧ m = m' ∧ d = d' := by
  have hy := h.year
  have ky := k.year
  have e : y = y' := year_unique hy.1 hy.2 ky.1 ky.2
  subst e
  have h1 := h.d1; have h2 := h.dl; have h3 := h.num; have h4 := h.m1; have h5 := h.m12
  have k1 := k.d1; have k2 := k.dl; have k3 := k.num; have k4 := k.m1; have k5 := k.m12
  unfold dnum at h3 k3
  rcases Int.lt_trichotomy m m' with hm | hm | hm
  · have := cum_step y m m' h4 hm k5; omega
  · subst hm; exact ⟨rfl, rfl, by omega⟩
  · have := cum_step y m' m k4 hm h5; omega
/-- The order of days is that of dates. -/
theorem IsDate.le_of {n y m d n' y' m' d' : Int} (h : IsDate n y m d) (k : IsDate n' y' m' d') (hle : n ≤ n') : y < y' ∨ y = y' ∧ (m < m' ∨ m = m' ∧ d ≤ d') := by
  have hy := h.year
  have ky := k.year
  rcases Int.lt_trichotomy y y' with e | e | e
  · exact .inl e
  · subst e
    refine .inr ⟨rfl, ?_⟩
    have h1 := h.d1; have h2 := h.dl; have h3 := h.num; have h4 := h.m1; have h5 := h.m12
    have k1 := k.d1; have k2 := k.dl; have k3 := k.num; have k4 := k.m1; have k5 := k.m12
    unfold dnum at h3 k3
    rcases Int.lt_trichotomy m m' with hm | hm | hm
    · exact .inl hm
    · subst hm; exact .inr ⟨rfl, by omega⟩
    · have := cum_step y m' m k4 hm h5; omega
  · have := dby_far (y' + 1) y (by omega); omega
theorem IsDate.lt_of {n y m d n' y' m' d' : Int} (h : IsDate n y m d) (k : IsDate n' y' m' d') (hle : y < y' ∨ y = y' ∧ (m < m' ∨ m = m' ∧ d ≤ d')) : n ≤ n' := by
  by_cases g : n ≤ n'
  · exact g
  · have := k.le_of h (by omega)
    rcases Int.lt_or_le n' n with e | e
    · have := IsDate.le_of k h (by omega)
      have u : ¬ (y = y' ∧ m = m' ∧ d = d') := by
        rintro ⟨rfl, rfl, rfl⟩
        have a1 := h.num; have a2 := k.num; omega
      omega
    · omega
/-- Each day has a date. -/
theorem year_of (n : Int) : ∃ y, dby y ≤ n ∧ n < dby (y + 1) := by
  -- of a day of the first 400 years behind 2000
  have base : ∀ k : Nat, ∀ n : Int, 0 ≤ n → n < dby (2000 + k) → ∃ y, 2000 ≤ y ∧ dby y ≤ n ∧ n < dby (y + 1) := by
    intro k
    induction k with
    | zero => intro n h0 h; exfalso; have : dby (2000 + ((0 : Nat) : Int)) = 0 := by decide
              omega
    | succ k ih =>
      intro n h0 h
      by_cases g : n < dby (2000 + k)
      · exact ih n h0 g
      · exact ⟨2000 + k, by omega, by omega, by have e : (2000 + ((k + 1 : Nat) : Int)) = 2000 + k + 1 := by omega
                                                rw [e] at h; exact h⟩
  obtain ⟨y, _, h1, h2⟩ := base 400 (n % 146097) (by omega) (by have : dby (2000 + ((400 : Nat) : Int)) = 146097 := by decide
                                                                omega)
  refine ⟨y + 400 * (n / 146097), ?_, ?_⟩
  · rw [dby_era]; omega
  · rw [show y + 400 * (n / 146097) + 1 = (y + 1) + 400 * (n / 146097) by omega, dby_era]; omega
theorem month_of (y left : Int) (h0 : 0 ≤ left) (h1 : left < 365 + lp y) : ∃ m, 1 ≤ m ∧ m ≤ 12 ∧ cum y m ≤ left ∧ left < cum y m + mlen y m := by
  have key : ∀ k : Nat, k ≤ 12 → left < cum y (1 + k) → ∃ m, 1 ≤ m ∧ m ≤ 12 ∧ cum y m ≤ left ∧ left < cum y m + mlen y m := by
    intro k
    induction k with
    | zero => intro _ h; exfalso; have : cum y (1 + ((0 : Nat) : Int)) = 0 := rfl
              omega
    | succ k ih =>
      intro hk h
      by_cases g : left < cum y (1 + k)
      · exact ih (by omega) g
      · refine ⟨1 + k, by omega, by omega, by omega, ?_⟩
        rw [← cum_succ y (1 + k) (by omega) (by omega), show (1 + (k : Int) + 1) = 1 + ((k + 1 : Nat) : Int) by omega]; exact h
  refine key 12 (by omega) ?_
  rw [cum_end y _ (by omega)]; exact h1
theorem date_of (n : Int) : ∃ y m d, IsDate n y m d := by
  obtain ⟨y, h1, h2⟩ := year_of n
  have hs := dby_succ y
  obtain ⟨m, a, b, c, e⟩ := month_of y (n - dby y) (by omega) (by omega)
  exact ⟨y, m, n - dby y - cum y m + 1, a, b, by omega, by omega, by unfold dnum; omega⟩
/-- The days that can be: those of the years -4718 to 294282. -/
def CanDay (n : Int) : Prop := -2453698 ≤ n ∧ n ≤ 106754173
theorem dby_first : dby (-4718) = -2453698 := by decide
theorem dby_last : dby 294283 = 106754174 := by decide
theorem can_of_year {n y m d : Int} (h : IsDate n y m d) : CanDay n ↔ -4718 ≤ y ∧ y ≤ 294282 := by
  have hy := h.year
  have f := dby_first
  have l := dby_last
  unfold CanDay
  constructor
  · rintro ⟨h1, h2⟩
    constructor
    · rcases Int.lt_or_le y (-4718) with g | g
      · have := dby_far (y + 1) (-4718) (by omega); omega
      · exact g
    · rcases Int.lt_or_le 294282 y with g | g
      · have := dby_far 294283 y (by omega); omega
      · exact g
  · rintro ⟨h1, h2⟩
    have a := dby_far (-4718) y h1
    have b := dby_far (y + 1) 294283 (by omega)
    omega
end Go.Proofs.YthkmckmfgglafaaGreat.Civ
namespace Go.Proofs.YthkmckmfgglafaaGreat.Civ
set_option linter.unusedVariables false
set_option linter.unusedSimpArgs false
open Go.RowKit Go.Proofs.YthkmckmfgglafaaGreatW.PrintWords Go.Proofs.YthkmckmfgglafaaGreatW.PrintLast Go.Proofs.YthkmckmfgglafaaGreatW.PrintMore Go.Proofs.YthkmckmfgglafaaGreat.P
theorem floor_eq (a b : Int) (ha : I64 a) (hb : 1 < b) (hb2 : b ≤ 4611686018427387904) : civil_floor.f a b = some (a / b, a % b) := by
  have c := cut_floor a (b := b) (by omega)
  have q := ediv_i64 (b := b) ha (by omega)
  have h1 := Int.emod_nonneg a (b := b) (by omega)
  have h2 := Int.emod_lt_of_pos a (b := b) (by omega)
  unfold civil_floor.f
  rw [if_neg (by omega)]
  by_cases h : Int.tmod a b < 0
  · obtain ⟨c1, c2, _⟩ := c.1 h
    rw [if_pos h, c1, c2]
    have q2 : a / b + 1 ≤ 9223372036854775807 := by
      have : a / b ≤ 4611686018427387904 := by
        rcases Int.lt_or_le a 0 with g | g
        · have : a / b < 0 := Int.ediv_lt_of_lt_mul (by omega) (by omega)
          omega
        · have := Int.ediv_le_ediv (c := 2) (by omega) ha.2
          have h3 : a / b ≤ a / 2 := by
            rw [Int.le_ediv_iff_mul_le (by omega)]
            have e := Int.mul_ediv_add_emod a b
            have h4 := Int.emod_nonneg a (b := b) (by omega)
            have h5 : 0 ≤ a / b := Int.ediv_nonneg g (by omega)
            have h6 : a / b * 2 ≤ a / b * b := Int.mul_le_mul_of_nonneg_left (by omega) h5
            rw [Int.mul_comm b] at e
            omega
          omega
      omega
    rw [w64 (x := a / b + 1) (by omega) (by omega), w64 (by omega) (by omega), w64 (by omega) (by omega)]
    congr 2 <;> omega
  · obtain ⟨c1, c2⟩ := c.2 h
    rw [if_neg h, c1, c2, w64 q.1 q.2]
theorem leap_eq (y : Int) : civil_Leap.f y = some (decide (lp y = 1)) := by
  unfold civil_Leap.f lp
  simp only [tmod_zero_iff y (b := 4) (by omega), tmod_zero_iff y (b := 100) (by omega)]
  have e : (Int.tmod y 400 == 0) = decide (y % 400 = 0) := by
    have := tmod_zero_iff y (b := 400) (by omega)
    by_cases h : y % 400 = 0
    · rw [decide_eq_true h, beq_iff_eq.2 (this.2 h)]
    · rw [decide_eq_false h, beq_eq_false_iff_ne.2 (fun g => h (this.1 g))]
  rw [e]
  by_cases h1 : y % 4 = 0
  · rw [if_pos h1]
    by_cases h2 : y % 100 = 0
    · rw [if_pos h2]
      by_cases h3 : y % 400 = 0 <;> simp [h1, h2, h3]
    · rw [if_neg h2]; simp [h1, h2]
  · rw [if_neg h1]; simp [h1]
theorem len_eq (y m : Int) : civil_Len.f y m = some (mlen y m) := by
  have hl := lp_01 y
  unfold civil_Len.f
  by_cases h1 : m < 1
  · rw [if_pos h1, mlen_out y m (by omega)]
  · rw [if_neg h1]
    by_cases h2 : m > 12
    · rw [if_pos h2, mlen_out y m (by omega)]
    · rw [if_neg h2]
      rcases twelve (m := m) (by omega) (by omega) with e | e | e | e | e | e | e | e | e | e | e | e <;> subst e <;> simp [mlen, civil_Len.t, leap_eq]
      by_cases h3 : lp y = 1
      · rw [if_pos h3, h3]; rfl
      · rw [if_neg h3, show lp y = 0 by omega]; rfl
/-- A date that can be. -/
def DateOk (y m d : Int) : Prop := -4718 ≤ y ∧ y ≤ 294282 ∧ 1 ≤ m ∧ m ≤ 12 ∧ 1 ≤ d ∧ d ≤ mlen y m
instance (y m d : Int) : Decidable (DateOk y m d) := inferInstanceAs (Decidable (_ ∧ _))
theorem right_eq (y m d : Int) : civil_Right.f y m d = some (decide (DateOk y m d)) := by
  have hl := mlen_up y m
  unfold civil_Right.f
  by_cases h1 : y ≥ -4718
  · rw [if_pos h1]
    by_cases h2 : y ≤ 294282
    · rw [if_pos h2]
      by_cases h3 : d ≥ 1
      · rw [if_pos h3, len_eq]
        simp only [Option.bind_some]
        have : decide (d ≤ mlen y m) = decide (DateOk y m d) := by
          apply decide_eq_decide.2
          unfold DateOk
          constructor
          · intro h
            rcases Int.lt_or_le m 1 with g | g
            · rw [mlen_out y m (by omega)] at h; omega
            · rcases Int.lt_or_le 12 m with g2 | g2
              · rw [mlen_out y m (by omega)] at h; omega
              · omega
          · omega
        rw [this]
      · rw [if_neg h3, decide_eq_false (by unfold DateOk; omega)]
    · rw [if_neg h2, decide_eq_false (by unfold DateOk; omega)]
  · rw [if_neg h1, decide_eq_false (by unfold DateOk; omega)]
theorem era_eq (y : Int) : y / 400 * 146097 + y % 400 * 365 + y % 400 / 4 - y % 400 / 100 = 365 * y + y / 4 - y / 100 + y / 400 := by omega
theorem day_eq (y m d : Int) (h1 : 1 ≤ m) (h2 : m ≤ 12) (hy : -2000000 ≤ y) (hy2 : y ≤ 2000000) (hd : -100 ≤ d) (hd2 : d ≤ 100) : civil_day.f y m d = some (dnum y m d) := by
  have hl := lp_01 y
  unfold civil_day.f
  by_cases hm : m ≤ 2
  · rw [if_pos hm, w64 (x := y - 1) (by omega) (by omega), floor_eq _ _ (by unfold I64; omega) (by omega) (by omega)]
    simp only [Option.bind_some]
    simp (disch := omega) only [w64, td_pos]
    have e := era_eq (y - 1)
    congr 1
    unfold dnum dby
    rcases (by omega : m = 1 ∨ m = 2) with e | e <;> subst e <;> simp [cum] <;> omega
  · rw [if_neg hm, floor_eq _ _ (by unfold I64; omega) (by omega) (by omega)]
    simp only [Option.bind_some]
    simp (disch := omega) only [w64, td_pos]
    have e := era_eq y
    have e2 := dby_succ y
    have e3 : dby (y + 1) = 365 * (y - 1999) + y / 4 - y / 100 + y / 400 - 484 := by unfold dby; omega
    congr 1
    unfold dnum
    have : cum y m = (153 * (m - 3) + 2) / 5 + 59 + lp y := by
      rcases (by omega : m = 3 ∨ m = 4 ∨ m = 5 ∨ m = 6 ∨ m = 7 ∨ m = 8 ∨ m = 9 ∨ m = 10 ∨ m = 11 ∨ m = 12) with e | e | e | e | e | e | e | e | e | e <;> subst e <;> simp [cum]
    omega
theorem days_eq (y m d : Int) : civil_Days.f y m d = some (if DateOk y m d then (dnum y m d, 0) else (0, 10)) := by
  unfold civil_Days.f
  rw [right_eq]
  simp only [Option.bind_some, decide_eq_true_eq]
  by_cases h : DateOk y m d
  · have hl := mlen_up y m
    have h' := h
    unfold DateOk at h'
    rw [if_pos h, if_pos h, day_eq y m d (by omega) (by omega) (by omega) (by omega) (by omega) (by omega)]
    rfl
  · rw [if_neg h, if_neg h]
theorem firstday_eq : civil_First.f = some (-2453698) := by
  unfold civil_First.f
  rw [day_eq _ _ _ (by omega) (by omega) (by omega) (by omega) (by omega) (by omega)]
  rfl
theorem lastday_eq : civil_Last.f = some 106754173 := by
  unfold civil_Last.f
  rw [day_eq _ _ _ (by omega) (by omega) (by omega) (by omega) (by omega) (by omega)]
  rfl
instance (n : Int) : Decidable (CanDay n) := inferInstanceAs (Decidable (_ ∧ _))
theorem can_eq (n : Int) : civil_can.f n = some (decide (CanDay n)) := by
  unfold civil_can.f
  rw [firstday_eq]
  simp only [Option.bind_some]
  by_cases h : n ≥ -2453698
  · rw [if_pos h, lastday_eq]
    simp only [Option.bind_some]
    congr 1
    apply decide_eq_decide.2
    unfold CanDay
    omega
  · rw [if_neg h, decide_eq_false (by unfold CanDay; omega)]
theorem march {n e c f k r : Int} (hc : 0 ≤ c ∧ c ≤ 3) (hf : 0 ≤ f ∧ f ≤ 24) (hk : 0 ≤ k ∧ k ≤ 3) (hn : n + 730425 = 146097 * e + 36524 * c + 1461 * f + 365 * k + r) :
    dby (400 * e + 100 * c + 4 * f + k + 1) = n + 306 - r := by unfold dby; omega
theorem march_leap {e c f : Int} (hc : 0 ≤ c ∧ c ≤ 3) (hf : 0 ≤ f ∧ f ≤ 24) (h : f < 24 ∨ c = 3) : lp (400 * e + 100 * c + 4 * f + 3 + 1) = 1 := by
  unfold lp; rw [if_pos (by omega)]
theorem parts_eq {n y m d : Int} (h : IsDate n y m d) (hb : -2000000000 ≤ n ∧ n ≤ 2000000000) : civil_parts.f n = some (y, m, d) := by
  unfold civil_parts.f
  rw [w64 (x := n + 730425) (by omega) (by omega), floor_eq _ _ (by unfold I64; omega) (by omega) (by omega)]
  simp only [Option.bind_some]
  have hn : n + 730425 = 146097 * ((n + 730425) / 146097) + (n + 730425) % 146097 := by omega
  have h0 : 0 ≤ (n + 730425) % 146097 ∧ (n + 730425) % 146097 < 146097 := by omega
  have he : -20000 ≤ (n + 730425) / 146097 ∧ (n + 730425) / 146097 ≤ 20000 := by omega
  generalize (n + 730425) / 146097 = e at *
  generalize (n + 730425) % 146097 = r0 at *
  rw [td_pos (a := r0) h0.1, w64 (x := r0 / 36524) (by omega) (by omega)]
  have hc : 0 ≤ mn (r0 / 36524) 3 ∧ mn (r0 / 36524) 3 ≤ 3 ∧ 0 ≤ r0 - mn (r0 / 36524) 3 * 36524 ∧ r0 - mn (r0 / 36524) 3 * 36524 ≤ 36524 ∧ (r0 - mn (r0 / 36524) 3 * 36524 = 36524 → mn (r0 / 36524) 3 = 3) := by
    unfold mn; split <;> omega
  generalize mn (r0 / 36524) 3 = c at *
  obtain ⟨hc0, hc1, hc2, hc3, hc4⟩ := hc
  rw [w64 (x := c * 36524) (by omega) (by omega), w64 (x := r0 - c * 36524) (by omega) (by omega)]
  obtain ⟨r1, hr1⟩ : ∃ r1, r1 = r0 - c * 36524 := ⟨_, rfl⟩
  rw [← hr1] at hc2 hc3 hc4 ⊢
  rw [td_pos (a := r1) hc2, w64 (x := r1 / 1461) (by omega) (by omega)]
  have hf : 0 ≤ r1 / 1461 ∧ r1 / 1461 ≤ 24 ∧ 0 ≤ r1 - r1 / 1461 * 1461 ∧ r1 - r1 / 1461 * 1461 ≤ 1460 ∧ (r1 - r1 / 1461 * 1461 = 1460 → r1 / 1461 < 24 ∨ c = 3) := by omega
  generalize r1 / 1461 = f at *
  obtain ⟨hf0, hf1, hf2, hf3, hf4⟩ := hf
  rw [w64 (x := f * 1461) (by omega) (by omega), w64 (x := r1 - f * 1461) (by omega) (by omega)]
  obtain ⟨r2, hr2⟩ : ∃ r2, r2 = r1 - f * 1461 := ⟨_, rfl⟩
  rw [← hr2] at hf2 hf3 hf4 ⊢
  rw [td_pos (a := r2) hf2, w64 (x := r2 / 365) (by omega) (by omega)]
  have hk : 0 ≤ mn (r2 / 365) 3 ∧ mn (r2 / 365) 3 ≤ 3 ∧ 0 ≤ r2 - mn (r2 / 365) 3 * 365 ∧ (r2 - mn (r2 / 365) 3 * 365 ≤ 364 ∨ r2 - mn (r2 / 365) 3 * 365 = 365 ∧ r2 = 1460 ∧ mn (r2 / 365) 3 = 3) := by
    unfold mn; split <;> omega
  generalize mn (r2 / 365) 3 = k at *
  obtain ⟨hk0, hk1, hk2, hk3⟩ := hk
  rw [w64 (x := k * 365) (by omega) (by omega), w64 (x := r2 - k * 365) (by omega) (by omega)]
  obtain ⟨r3, hr3⟩ : ∃ r3, r3 = r2 - k * 365 := ⟨_, rfl⟩
  rw [← hr3] at hk2 hk3 ⊢
  have hn' : n + 730425 = 146097 * e + 36524 * c + 1461 * f + 365 * k + r3 := by omega
  have hY := march ⟨hc0, hc1⟩ ⟨hf0, hf1⟩ ⟨hk0, hk1⟩ hn'
  have hL : r3 = 365 → lp (400 * e + 100 * c + 4 * f + k + 1) = 1 := by
    intro hr
    have e1 : k = 3 := by omega
    subst e1
    exact march_leap ⟨hc0, hc1⟩ ⟨hf0, hf1⟩ (by omega)
  have hlb := lp_01 (400 * e + 100 * c + 4 * f + k + 1)
  have hY2 := dby_succ (400 * e + 100 * c + 4 * f + k)
  have h365 : r3 ≤ 365 := by omega
  clear hr1 hr2 hr3 hn' hn hk3 hf4 hc4
  rw [w64 (x := 5 * r3) (by omega) (by omega), w64 (x := 5 * r3 + 2) (by omega) (by omega), td_pos (a := 5 * r3 + 2) (by omega), w64 (x := (5 * r3 + 2) / 153) (by omega) (by omega)]
  have hm : 0 ≤ (5 * r3 + 2) / 153 ∧ (5 * r3 + 2) / 153 ≤ 11 ∧ 153 * ((5 * r3 + 2) / 153) ≤ 5 * r3 + 2 ∧ 5 * r3 + 2 < 153 * ((5 * r3 + 2) / 153) + 153 := by omega
  generalize (5 * r3 + 2) / 153 = m' at *
  obtain ⟨hm0, hm1, hm2, hm3⟩ := hm
  rw [w64 (x := e * 400) (by omega) (by omega), w64 (x := c * 100) (by omega) (by omega), w64 (x := f * 4) (by omega) (by omega), w64 (x := e * 400 + c * 100) (by omega) (by omega), w64 (x := e * 400 + c * 100 + f * 4) (by omega) (by omega), w64 (x := e * 400 + c * 100 + f * 4 + k) (by omega) (by omega)]
  rw [w64 (x := 153 * m') (by omega) (by omega), w64 (x := 153 * m' + 2) (by omega) (by omega), td_pos (a := 153 * m' + 2) (by omega), w64 (x := (153 * m' + 2) / 5) (by omega) (by omega), w64 (x := r3 - (153 * m' + 2) / 5) (by omega) (by omega), w64 (x := r3 - (153 * m' + 2) / 5 + 1) (by omega) (by omega)]
  have ey : e * 400 + c * 100 + f * 4 + k = 400 * e + 100 * c + 4 * f + k := by omega
  rw [ey]
  have hyb : -9000000 ≤ 400 * e + 100 * c + 4 * f + k ∧ 400 * e + 100 * c + 4 * f + k ≤ 9000000 := by omega
  clear ey hc0 hc1 hc2 hc3 hf0 hf1 hf2 hf3 hk0 hk1 he h0
  generalize 400 * e + 100 * c + 4 * f + k = Y at *
  by_cases hge : m' ≥ 10
  · rw [if_pos hge, w64 (x := Y + 1) (by omega) (by omega), w64 (x := m' - 9) (by omega) (by omega)]
    have key : IsDate n (Y + 1) (m' - 9) (r3 - (153 * m' + 2) / 5 + 1) := by
      rcases (by omega : m' = 10 ∨ m' = 11) with e1 | e1 <;> subst e1
      · exact ⟨by omega, by omega, by omega, by simp [mlen]; omega, by simp [dnum, cum]; omega⟩
      · refine ⟨by omega, by omega, by omega, ?_, by simp [dnum, cum]; omega⟩
        simp only [mlen]
        by_cases g : r3 = 365
        · rw [hL g, g]; decide
        · rw [if_neg (by omega), if_pos (by omega)]; omega
    obtain ⟨rfl, rfl, rfl⟩ := h.unique key
    rfl
  · rw [if_neg hge, w64 (x := m' + 3) (by omega) (by omega)]
    have key : IsDate n Y (m' + 3) (r3 - (153 * m' + 2) / 5 + 1) := by
      rcases (by omega : m' = 0 ∨ m' = 1 ∨ m' = 2 ∨ m' = 3 ∨ m' = 4 ∨ m' = 5 ∨ m' = 6 ∨ m' = 7 ∨ m' = 8 ∨ m' = 9) with e1 | e1 | e1 | e1 | e1 | e1 | e1 | e1 | e1 | e1 <;> subst e1 <;>
        exact ⟨by omega, by omega, by omega, by simp [mlen]; omega, by simp [dnum, cum]; omega⟩
    obtain ⟨rfl, rfl, rfl⟩ := h.unique key
    rfl
theorem date_eq {n y m d : Int} (h : IsDate n y m d) (hc : CanDay n) : civil_Date.f n = some (y, m, d, 0) := by
  unfold civil_Date.f
  rw [can_eq]
  simp only [Option.bind_some, decide_eq_true_eq]
  have hc' := hc
  unfold CanDay at hc'
  rw [if_pos hc, parts_eq h (by omega)]
  rfl
theorem date_no {n : Int} (hc : ¬ CanDay n) : civil_Date.f n = some (0, 0, 0, 10) := by
  unfold civil_Date.f
  rw [can_eq]
  simp only [Option.bind_some, decide_eq_true_eq]
  rw [if_neg hc]
/-- 0 is Sunday. -/
def wday (n : Int) : Int := (n + 6) % 7
theorem wday_bd (n : Int) : 0 ≤ wday n ∧ wday n ≤ 6 := by unfold wday; omega
theorem weekday_eq (n : Int) (h : I64 n) : civil_Weekday.f n = some (wday n) := by
  unfold civil_Weekday.f
  rw [floor_eq _ _ h (by omega) (by omega)]
  simp only [Option.bind_some]
  rw [w64 (by omega) (by omega), tm_pos (by omega)]
  congr 1
  unfold wday
  omega
end Go.Proofs.YthkmckmfgglafaaGreat.Civ
namespace Go.Proofs.YthkmckmfgglafaaGreat.Civ
set_option linter.unusedVariables false
set_option linter.unusedSimpArgs false
open Go.RowKit Go.Proofs.YthkmckmfgglafaaGreatW.PrintWords Go.Proofs.YthkmckmfgglafaaGreatW.PrintLast Go.Proofs.YthkmckmfgglafaaGreatW.PrintMore Go.Proofs.YthkmckmfgglafaaGreat.P
theorem rmod_eq (a b : Int) (hb : 0 < b) (hb2 : b ≤ 4611686018427387904) : computusref02_mod.f a b = some (a % b) := by
  have c := cut_floor a (b := b) (by omega)
  have h1 := Int.emod_nonneg a (b := b) (by omega)
  have h2 := Int.emod_lt_of_pos a (b := b) (by omega)
  unfold computusref02_mod.f
  rw [if_neg (by omega)]
  by_cases h : Int.tmod a b < 0
  · obtain ⟨c1, c2, _⟩ := c.1 h
    rw [if_pos h, c2, w64 (by omega) (by omega)]
    congr 1; omega
  · obtain ⟨c1, c2⟩ := c.2 h
    rw [if_neg h, c2]
theorem rdiv_eq (a b : Int) (ha : I64 a) (hb : 1 < b) (hb2 : b ≤ 4611686018427387904) : computusref02_div.f a b = some (a / b) := by
  have e := floor_eq a b ha hb hb2
  unfold civil_floor.f at e
  unfold computusref02_div.f
  rw [if_neg (by omega)] at e ⊢
  by_cases h : Int.tmod a b < 0
  · rw [if_pos h] at e ⊢; injection e with e; injection e with e1 _; rw [e1]
  · rw [if_neg h] at e ⊢; injection e with e; injection e with e1 _; rw [e1]
theorem rleap_eq (y : Int) : computusref02_Leap.f y = some (decide (lp y = 1)) := by
  unfold computusref02_Leap.f
  rw [rmod_eq _ _ (by omega) (by omega), rmod_eq _ _ (by omega) (by omega), rmod_eq _ _ (by omega) (by omega)]
  simp only [Option.bind_some]
  have e : (y % 400 == 0) = decide (y % 400 = 0) := rfl
  rw [e]
  unfold lp
  by_cases h1 : y % 4 = 0
  · rw [if_pos h1]
    by_cases h2 : y % 100 = 0
    · rw [if_pos h2]
      by_cases h3 : y % 400 = 0 <;> simp [h1, h2, h3]
    · rw [if_neg h2]; simp [h1, h2]
  · rw [if_neg h1]; simp [h1]
theorem rlen_eq (k : Nat) (y m : Int) : computusref02_Len.f (k + 2) y m = some (mlen y m) := by
  have hl := lp_01 y
  by_cases h : m < 1 ∨ 12 < m
  · rw [mlen_out y m h]
    unfold computusref02_Len.f
    rw [if_neg (by omega), if_neg (by omega), if_neg (by omega), if_neg (by omega), if_neg (by omega), if_neg (by omega), beq_eq_false_iff_ne.2 (by omega : m ≠ 12)]
    simp only [computusref02_Len.j0]
    rw [if_neg (by simp), if_neg (by omega), if_neg (by omega), if_neg (by omega), beq_eq_false_iff_ne.2 (by omega : m ≠ 11)]
    simp only [computusref02_Len.j1]
    rw [if_neg (by simp), if_neg (by omega)]
  · rcases twelve (m := m) (by omega) (by omega) with e | e | e | e | e | e | e | e | e | e | e | e <;> subst e <;> simp [computusref02_Len.f, computusref02_Len.j0, computusref02_Len.j1, mlen, rleap_eq]
    by_cases h3 : lp y = 1
    · rw [if_pos h3, h3]; rfl
    · rw [if_neg h3, show lp y = 0 by omega]; rfl
theorem rlen_ev (y m : Int) : Ev (fun k => computusref02_Len.f k y m) (mlen y m) := Ev.at2 fun k => rlen_eq k y m
theorem rstart_loop (y : Int) (hy : -100000000 ≤ y ∧ y ≤ 100000000) (d : Nat) : ∀ i n : Int, 0 ≤ i → i ≤ (y - 2000) % 400 → (y - 2000) % 400 - i = d → n = dby (2000 + i) + 146097 * ((y - 2000) / 400) →
    Ev (fun k => computusref02_start.l0 k y n i) (dby y) := by
  induction d with
  | zero =>
    intro i n h0 h1 hd hn
    refine Ev.at1 fun k => ?_
    simp only [computusref02_start.l0]
    rw [w64 (by omega) (by omega), rmod_eq _ _ (by omega) (by omega)]
    simp only [Option.bind_some]
    rw [if_neg (by omega)]
    congr 1
    rw [hn, ← dby_era, show 2000 + i + 400 * ((y - 2000) / 400) = y by omega]
  | succ d ih =>
    intro i n h0 h1 hd hn
    have hs := dby_succ (2000 + i)
    have hb : -1000000 ≤ dby (2000 + i) ∧ dby (2000 + i) ≤ 1000000 := by
      have a := dby_far 2000 (2000 + i) (by omega)
      have b := dby_near 2000 (2000 + i) (by omega)
      have c : dby 2000 = 0 := by decide
      omega
    have hl := lp_01 (2000 + i)
    refine Ev.step (f := fun k => computusref02_start.l0 k y (n + 365 + lp (2000 + i)) (i + 1)) (fun k => ?_) (ih (i + 1) _ (by omega) (by omega) (by omega) ?_)
    · simp only [computusref02_start.l0]
      rw [w64 (x := y - 2000) (by omega) (by omega), rmod_eq _ _ (by omega) (by omega)]
      simp only [Option.bind_some]
      rw [if_pos (by omega), w64 (x := 2000 + i) (by omega) (by omega), rleap_eq]
      simp only [Option.bind_some, decide_eq_true_eq]
      rw [w64 (x := i + 1) (by omega) (by omega), w64 (x := n + 365) (by omega) (by omega)]
      by_cases hp : lp (2000 + i) = 1
      · rw [if_pos hp, w64 (by omega) (by omega), hp]
      · rw [if_neg hp, show lp (2000 + i) = 0 by omega, Int.add_zero]
    · rw [show 2000 + (i + 1) = 2000 + i + 1 by omega, hs]; omega
theorem rstart_ev (y : Int) (hy : -100000000 ≤ y ∧ y ≤ 100000000) : Ev (fun k => computusref02_start.f k y) (dby y) := by
  unfold computusref02_start.f
  rw [w64 (by omega) (by omega), rdiv_eq _ _ (by unfold I64; omega) (by omega) (by omega)]
  simp only [Option.bind_some]
  refine rstart_loop y hy ((y - 2000) % 400).toNat 0 _ (by omega) (by omega) (by omega) ?_
  rw [w64 (by omega) (by omega)]
  have c : dby (2000 + 0) = 0 := by decide
  omega
theorem rday_loop (y m : Int) (hm : m ≤ 12) (d : Nat) : ∀ i n : Int, 1 ≤ i → i ≤ m → m - i = d → -1000000000000 ≤ n ∧ n ≤ 1000000000000 + 31 * i →
    Ev (fun k => computusref02_day.l0 k y m n i) (n + cum y m - cum y i) := by
  induction d with
  | zero =>
    intro i n h0 h1 hd hn
    refine Ev.at1 fun k => ?_
    simp only [computusref02_day.l0]
    rw [if_neg (by omega)]
    congr 1
    have : i = m := by omega
    subst this; omega
  | succ d ih =>
    intro i n h0 h1 hd hn
    have hc := cum_succ y i h0 (by omega)
    have hl := mlen_bd y i h0 (by omega)
    refine Ev.step (f := fun k => (computusref02_Len.f k y i).bind fun t => computusref02_day.l0 k y m (wrap64 (n + t)) (wrap64 (i + 1))) (fun k => ?_) (Ev.bind (rlen_ev y i) ?_)
    · simp only [computusref02_day.l0]
      rw [if_pos (by omega)]
    · rw [w64 (x := n + mlen y i) (by omega) (by omega), w64 (x := i + 1) (by omega) (by omega)]
      exact Ev.cast (ih (i + 1) _ (by omega) (by omega) (by omega) (by omega)) (by omega)
theorem dby_bd (y : Int) (hy : -100000000 ≤ y ∧ y ≤ 100000000) : -40000000000 ≤ dby y ∧ dby y ≤ 40000000000 := by
  have c : dby 2000 = 0 := by decide
  rcases Int.le_total y 2000 with h | h
  · have a := dby_far y 2000 h
    have b := dby_near y 2000 h
    omega
  · have a := dby_far 2000 y h
    have b := dby_near 2000 y h
    omega
theorem rday_ev (y m d : Int) (hy : -100000000 ≤ y ∧ y ≤ 100000000) (h1 : 1 ≤ m) (h2 : m ≤ 12) (hd : -1000 ≤ d ∧ d ≤ 1000) : Ev (fun k => computusref02_day.f k y m d) (dnum y m d) := by
  have hb := dby_bd y hy
  unfold computusref02_day.f
  refine Ev.bind (rstart_ev y hy) ?_
  rw [w64 (x := dby y + d) (by omega) (by omega), w64 (by omega) (by omega)]
  refine Ev.cast (rday_loop y m h2 (m - 1).toNat 1 _ (by omega) (by omega) (by omega) (by omega)) ?_
  unfold dnum
  rw [cum_one]; omega
theorem rfirst_ev : Ev (fun k => computusref02_First.f k) (-2453698) := by
  unfold computusref02_First.f
  exact Ev.bind (rday_ev _ _ _ (by omega) (by omega) (by omega) (by omega)) (Ev.now _)
theorem rlast_ev : Ev (fun k => computusref02_Last.f k) 106754173 := by
  unfold computusref02_Last.f
  exact Ev.bind (rday_ev _ _ _ (by omega) (by omega) (by omega) (by omega)) (Ev.now _)
theorem rcan_ev (n : Int) : Ev (fun k => computusref02_Can.f k n) (decide (CanDay n)) := by
  unfold computusref02_Can.f
  refine Ev.bind rfirst_ev ?_
  by_cases h : n ≥ -2453698
  · simp only [if_pos h]
    refine Ev.bind rlast_ev ?_
    have e : decide (n ≤ 106754173) = decide (CanDay n) := decide_eq_decide.2 (by unfold CanDay; omega)
    rw [e]; exact Ev.now _
  · simp only [if_neg h]
    rw [decide_eq_false (by unfold CanDay; omega : ¬ CanDay n)]; exact Ev.now _
theorem rdate_months (y : Int) (left : Int) (m d : Int) (h12 : m ≤ 12) (hd0 : 1 ≤ d) (hd1 : d ≤ mlen y m) (j : Nat) : ∀ i l : Int, 1 ≤ i → i ≤ m → m - i = j → l = cum y m + d - 1 - cum y i →
    Ev (fun k => computusref02_Date.l1 k y l i) (y, m, d, 0) := by
  induction j with
  | zero =>
    intro i l h0 h1 hj hl
    have e : i = m := by omega
    subst e
    refine Ev.step (f := fun k => (computusref02_Len.f k y i).bind fun t => if l ≥ t then (computusref02_Len.f k y i).bind fun t' => computusref02_Date.l1 k y (wrap64 (l - t')) (wrap64 (i + 1)) else some (y, i, wrap64 (l + 1), 0)) (fun k => by simp only [computusref02_Date.l1]) (Ev.bind (rlen_ev y i) ?_)
    have hb := mlen_bd y i h0 h12
    simp only [if_neg (show ¬ l ≥ mlen y i by omega)]
    rw [w64 (by omega) (by omega), show l + 1 = d by omega]
    exact Ev.now _
  | succ j ih =>
    intro i l h0 h1 hj hl
    have hb := mlen_bd y i h0 (by omega)
    have hb2 := mlen_bd y m (by omega) h12
    have hcm := cum_bd y m (by omega) h12
    have hci := cum_bd y i h0 (by omega)
    have hlp := lp_01 y
    have hst := cum_step y i m h0 (by omega) h12
    have hs := cum_succ y i h0 (by omega)
    refine Ev.step (f := fun k => (computusref02_Len.f k y i).bind fun t => if l ≥ t then (computusref02_Len.f k y i).bind fun t' => computusref02_Date.l1 k y (wrap64 (l - t')) (wrap64 (i + 1)) else some (y, i, wrap64 (l + 1), 0)) (fun k => by simp only [computusref02_Date.l1]) (Ev.bind (rlen_ev y i) ?_)
    simp only [if_pos (show l ≥ mlen y i by omega)]
    refine Ev.bind (rlen_ev y i) ?_
    rw [w64 (x := l - mlen y i) (by omega) (by omega), w64 (x := i + 1) (by omega) (by omega)]
    exact ih (i + 1) _ (by omega) (by omega) (by omega) (by omega)
theorem rdate_years {n y m d : Int} (h : IsDate n y m d) (hy : -100000000 ≤ y ∧ y ≤ 100000000) (j : Nat) : ∀ i l : Int, i ≤ y → -200000000 ≤ i → y - i = j → dby i + l = n → l ≤ 10000000 →
    Ev (fun k => computusref02_Date.l0 k i l) (y, m, d, 0) := by
  have hh := h.year
  have hs := dby_succ y
  have hl := lp_01 y
  have hm := h.m1
  have hm2 := h.m12
  have hnum := h.num
  unfold dnum at hnum
  have hcm := cum_bd y m hm hm2
  induction j with
  | zero =>
    intro i l h0 h00 hj hn hle
    have e : i = y := by omega
    subst e
    refine Ev.step (f := fun k => computusref02_Date.j1 k i l) (fun k => ?_) (Ev.step (f := fun k => computusref02_Date.l1 k i l 1) (fun k => by simp only [computusref02_Date.j1]) (rdate_months i l m d hm2 h.d1 h.dl (m - 1).toNat 1 l (by omega) hm (by omega) (by rw [cum_one]; omega)))
    simp only [computusref02_Date.l0]
    rw [rleap_eq]
    simp only [Option.bind_some, decide_eq_true_eq]
    by_cases hp : lp i = 1
    · rw [if_pos hp, if_pos (by omega)]
    · rw [if_neg hp, if_pos (by omega)]
  | succ j ih =>
    intro i l h0 h00 hj hn hle
    have hsi := dby_succ i
    have hli := lp_01 i
    have hf := dby_far (i + 1) y (by omega)
    refine Ev.step (f := fun k => computusref02_Date.l0 k (i + 1) (l - 365 - lp i)) (fun k => ?_) (ih (i + 1) _ (by omega) (by omega) (by omega) (by omega) (by omega))
    simp only [computusref02_Date.l0]
    rw [rleap_eq]
    simp only [Option.bind_some, decide_eq_true_eq]
    by_cases hp : lp i = 1
    · rw [if_pos hp, if_neg (by omega), w64 (x := i + 1) (by omega) (by omega), w64 (x := l - 366) (by omega) (by omega), show l - 366 = l - 365 - lp i by omega]
    · rw [if_neg hp, if_neg (by omega), w64 (x := i + 1) (by omega) (by omega), w64 (x := l - 365) (by omega) (by omega), show lp i = 0 by omega, Int.sub_zero]
theorem rdate_ev {n y m d : Int} (h : IsDate n y m d) (hc : CanDay n) : Ev (fun k => computusref02_Date.f k n) (y, m, d, 0) := by
  have hy := (can_of_year h).1 hc
  have hyr := h.year
  unfold computusref02_Date.f
  refine Ev.bind (rcan_ev n) ?_
  simp only [decide_eq_true_eq, if_pos hc]
  unfold CanDay at hc
  rw [rdiv_eq _ _ (by unfold I64; omega) (by omega) (by omega), rmod_eq _ _ (by omega) (by omega)]
  simp only [Option.bind_some]
  rw [w64 (x := n / 146097 * 400) (by omega) (by omega), w64 (by omega) (by omega)]
  have e : dby (2000 + n / 146097 * 400) = n / 146097 * 146097 := by
    have := dby_era 2000 (n / 146097)
    have c : dby 2000 = 0 := by decide
    rw [show 2000 + n / 146097 * 400 = 2000 + 400 * (n / 146097) by omega, this, c]; omega
  have hle : 2000 + n / 146097 * 400 ≤ y := by
    rcases Int.lt_or_le y (2000 + n / 146097 * 400) with g | g
    · have := dby_far (y + 1) (2000 + n / 146097 * 400) (by omega)
      omega
    · exact g
  exact rdate_years h (by omega) (y - (2000 + n / 146097 * 400)).toNat _ _ hle (by omega) (by omega) (by rw [e]; omega) (by omega)
theorem rdate_no {n : Int} (hc : ¬ CanDay n) : Ev (fun k => computusref02_Date.f k n) (0, 0, 0, 10) := by
  unfold computusref02_Date.f
  refine Ev.bind (rcan_ev n) ?_
  simp only [decide_eq_true_eq, if_neg hc]
  exact Ev.now _
end Go.Proofs.YthkmckmfgglafaaGreat.Civ
