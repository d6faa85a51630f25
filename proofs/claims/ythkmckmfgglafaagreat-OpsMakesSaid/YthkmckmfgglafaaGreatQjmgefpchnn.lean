-- Written by a program of the session (a print of the seat's translation, functions given by hand among it). Lean checks it.
import Derived.Test.YthkmckmfgglafaaGreatQdofiagjpmj
import Derived.Test.YthkmckmfgglafaaGreatQmkafekppgk
import Derived.Test.YthkmckmfgglafaaGreatQllglempoik
import Derived.Test.YthkmckmfgglafaaGreatQifdpkpnkbf
import Derived.Test.YthkmckmfgglafaaGreatQelogbjpgan
import Derived.Test.YthkmckmfgglafaaGreatQocimmdbhal
import Derived.Test.YthkmckmfgglafaaGreatQpmddhagiao
namespace Go.Proofs.YthkmckmfgglafaaGreat.P
open Go.RowKit Go.Proofs.YthkmckmfgglafaaGreatW.PrintWords Go.Proofs.YthkmckmfgglafaaGreatW.PrintLast Go.Proofs.YthkmckmfgglafaaGreatW.PrintMore
open Go.Proofs.YthkmckmfgglafaaGreat.A
attribute [local go_sem] max2_int min2_int max_two min_two max_three min_three max_four min_four   -- for this text's walks alone
set_option linter.unusedVariables false
set_option linter.unusedSimpArgs false
def computusref01_Mod.f (k : Nat) (a0 : Int) (a1 : Int) : Option (Int × Int) := if a1 = 0 then (some (0, 11)) else ((computusref01_Of.f a0).bind fun bt550 => ((computusref01_Of.f a1).bind fun bt554 => ((computusref01_Of.f a0).bind fun bt558 => ((computusref01_Of.f a1).bind fun bt562 => ((computusref01_Over.f k bt558.1 bt558.2 bt562.1 bt562.2).bind fun bt566 => ((computusref01_Times.f k bt554.1 bt554.2 bt566.1 bt566.2).bind fun bt570 => ((computusref01_Minus.f k bt570.1 bt570.2).bind fun bt574 => ((computusref01_Plus.f k bt550.1 bt550.2 bt574.1 bt574.2).bind fun bt578 => ((computusref01_Small.f k bt578.1 bt578.2).bind fun bt582 => (some (bt582.1, bt582.2)))))))))))
set_option maxHeartbeats 8000000 in
set_option maxRecDepth 100000 in
theorem computusref01_Mod.calls (k : Nat) (a0 : Int) (a1 : Int) (r1 : Int) (r2 : Int) (w : World) (h : computusref01_Mod.f k a0 a1 = some (r1, r2)) :
    Calls Tryz.prog 99 #[.int .i64 a0, .int .i64 a1] w fun e w' => e = .returned (.tuple #[.int .i64 r1, .int .i64 r2]) ∧ Below w.heap.size w w' := by
  have HB := Aside0.mk (Below.refl w.heap.size w)
  have H : (if a1 = 0 then (some (0, 11)) else ((computusref01_Of.f a0).bind fun bt550 => ((computusref01_Of.f a1).bind fun bt554 => ((computusref01_Of.f a0).bind fun bt558 => ((computusref01_Of.f a1).bind fun bt562 => ((computusref01_Over.f k bt558.1 bt558.2 bt562.1 bt562.2).bind fun bt566 => ((computusref01_Times.f k bt554.1 bt554.2 bt566.1 bt566.2).bind fun bt570 => ((computusref01_Minus.f k bt570.1 bt570.2).bind fun bt574 => ((computusref01_Plus.f k bt550.1 bt550.2 bt574.1 bt574.2).bind fun bt578 => ((computusref01_Small.f k bt578.1 bt578.2).bind fun bt582 => (some (bt582.1, bt582.2)))))))))))) = some (r1, r2) := h
  clear h
  by_cases c3 : a1 = 0
  · rw [if_pos c3] at H
    have c3b0 : (a1 == 0) = true := beq_iff_eq.mpr c3
    have c3b1 : (a1 != 0) = false := bne_eq_false_iff_eq.mpr c3
    clear c3
    simp only [Option.some.injEq, Prod.mk.injEq] at H
    obtain ⟨rfl, rfl⟩ := H
    go_enter Tryz.func99, Tryz.ntmps99
    go_wp2
    go_ret2
    exact ⟨by first | rfl | (simp [errW_none, errW_some] <;> rfl) | (simp [*, errW_none, errW_some] <;> rfl), by repeat (first | (with_reducible first | exact HB.out | apply kC | apply kA | apply kB) | exact HB.out)⟩
  · rw [if_neg c3] at H
    have c3b0 : (a1 == 0) = false := beq_eq_false_iff_ne.mpr c3
    have c3b1 : (a1 != 0) = true := bne_iff_ne.mpr c3
    replace H := Option.bind_eq_some_iff.mp H
    obtain ⟨⟨t550, t551⟩, A40, H⟩ := H
    replace H : ((computusref01_Of.f a1).bind fun bt554 => ((computusref01_Of.f a0).bind fun bt558 => ((computusref01_Of.f a1).bind fun bt562 => ((computusref01_Over.f k bt558.1 bt558.2 bt562.1 bt562.2).bind fun bt566 => ((computusref01_Times.f k bt554.1 bt554.2 bt566.1 bt566.2).bind fun bt570 => ((computusref01_Minus.f k bt570.1 bt570.2).bind fun bt574 => ((computusref01_Plus.f k t550 t551 bt574.1 bt574.2).bind fun bt578 => ((computusref01_Small.f k bt578.1 bt578.2).bind fun bt582 => (some (bt582.1, bt582.2)))))))))) = some (r1, r2) := H
    have A4 := Aside0.mk A40
    clear A40
    replace H := Option.bind_eq_some_iff.mp H
    obtain ⟨⟨t554, t555⟩, A50, H⟩ := H
    replace H : ((computusref01_Of.f a0).bind fun bt558 => ((computusref01_Of.f a1).bind fun bt562 => ((computusref01_Over.f k bt558.1 bt558.2 bt562.1 bt562.2).bind fun bt566 => ((computusref01_Times.f k t554 t555 bt566.1 bt566.2).bind fun bt570 => ((computusref01_Minus.f k bt570.1 bt570.2).bind fun bt574 => ((computusref01_Plus.f k t550 t551 bt574.1 bt574.2).bind fun bt578 => ((computusref01_Small.f k bt578.1 bt578.2).bind fun bt582 => (some (bt582.1, bt582.2))))))))) = some (r1, r2) := H
    have A5 := Aside0.mk A50
    clear A50
    replace H := Option.bind_eq_some_iff.mp H
    obtain ⟨⟨t558, t559⟩, A60, H⟩ := H
    replace H : ((computusref01_Of.f a1).bind fun bt562 => ((computusref01_Over.f k t558 t559 bt562.1 bt562.2).bind fun bt566 => ((computusref01_Times.f k t554 t555 bt566.1 bt566.2).bind fun bt570 => ((computusref01_Minus.f k bt570.1 bt570.2).bind fun bt574 => ((computusref01_Plus.f k t550 t551 bt574.1 bt574.2).bind fun bt578 => ((computusref01_Small.f k bt578.1 bt578.2).bind fun bt582 => (some (bt582.1, bt582.2)))))))) = some (r1, r2) := H
    have A6 := Aside0.mk A60
    clear A60
    replace H := Option.bind_eq_some_iff.mp H
    obtain ⟨⟨t562, t563⟩, A70, H⟩ := H
    replace H : ((computusref01_Over.f k t558 t559 t562 t563).bind fun bt566 => ((computusref01_Times.f k t554 t555 bt566.1 bt566.2).bind fun bt570 => ((computusref01_Minus.f k bt570.1 bt570.2).bind fun bt574 => ((computusref01_Plus.f k t550 t551 bt574.1 bt574.2).bind fun bt578 => ((computusref01_Small.f k bt578.1 bt578.2).bind fun bt582 => (some (bt582.1, bt582.2))))))) = some (r1, r2) := H
    have A7 := Aside0.mk A70
    clear A70
    replace H := Option.bind_eq_some_iff.mp H
    obtain ⟨⟨t566, t567⟩, A80, H⟩ := H
    replace H : ((computusref01_Times.f k t554 t555 t566 t567).bind fun bt570 => ((computusref01_Minus.f k bt570.1 bt570.2).bind fun bt574 => ((computusref01_Plus.f k t550 t551 bt574.1 bt574.2).bind fun bt578 => ((computusref01_Small.f k bt578.1 bt578.2).bind fun bt582 => (some (bt582.1, bt582.2)))))) = some (r1, r2) := H
    have A8 := Aside0.mk A80
    clear A80
    replace H := Option.bind_eq_some_iff.mp H
    obtain ⟨⟨t570, t571⟩, A90, H⟩ := H
    replace H : ((computusref01_Minus.f k t570 t571).bind fun bt574 => ((computusref01_Plus.f k t550 t551 bt574.1 bt574.2).bind fun bt578 => ((computusref01_Small.f k bt578.1 bt578.2).bind fun bt582 => (some (bt582.1, bt582.2))))) = some (r1, r2) := H
    have A9 := Aside0.mk A90
    clear A90
    replace H := Option.bind_eq_some_iff.mp H
    obtain ⟨⟨t574, t575⟩, A100, H⟩ := H
    replace H : ((computusref01_Plus.f k t550 t551 t574 t575).bind fun bt578 => ((computusref01_Small.f k bt578.1 bt578.2).bind fun bt582 => (some (bt582.1, bt582.2)))) = some (r1, r2) := H
    have A10 := Aside0.mk A100
    clear A100
    replace H := Option.bind_eq_some_iff.mp H
    obtain ⟨⟨t578, t579⟩, A110, H⟩ := H
    replace H : ((computusref01_Small.f k t578 t579).bind fun bt582 => (some (bt582.1, bt582.2))) = some (r1, r2) := H
    have A11 := Aside0.mk A110
    clear A110
    replace H := Option.bind_eq_some_iff.mp H
    obtain ⟨⟨t582, t583⟩, A120, H⟩ := H
    replace H : (some (t582, t583)) = some (r1, r2) := H
    have A12 := Aside0.mk A120
    clear A120
    simp only [Option.some.injEq, Prod.mk.injEq] at H
    obtain ⟨rfl, rfl⟩ := H
    go_enter Tryz.func99, Tryz.ntmps99
    go_wp2_with (first | ((with_reducible refine kM (f := 137) rfl ?_); refine kP (some 9) rfl rfl Tryz.func137 (by kernel_rfl) rfl #[.int .i64 a0] rfl (by (try simp only [List.map_toArray, List.map_cons, List.map_nil]); first | done | rfl | (simp only [List.length_drop, List.length_take]; rfl)) ?_; (with_reducible refine (computusref01_Of.calls a0 t550 t551 _ A4.out).mono ?_); rintro e w13 ⟨v552, rfl, ho0, hb⟩; refine ⟨_, rfl, ?_⟩; have n0_ := Aside0.mk (Kd.R_lower ho0 (kJ (by repeat (first | (with_reducible first | exact HB.out | apply kC | apply kA | apply kB) | exact HB.out)))); have n1_ := Aside0.mk (kK (by repeat (first | (with_reducible first | exact HB.out | apply kC | apply kA | apply kB) | exact HB.out)) hb); clear HB; have HO553 := n0_; have HB := n1_; clear n0_ n1_; (try clear hb); (try clear hb2); (try clear hk); (try clear hi); (try clear ho0)) | ((with_reducible refine kM (f := 137) rfl ?_); refine kP (some 11) rfl rfl Tryz.func137 (by kernel_rfl) rfl #[.int .i64 a1] rfl (by (try simp only [List.map_toArray, List.map_cons, List.map_nil]); first | done | rfl | (simp only [List.length_drop, List.length_take]; rfl)) ?_; (with_reducible refine (computusref01_Of.calls a1 t554 t555 _ A5.out).mono ?_); rintro e w14 ⟨v556, rfl, ho0, hb⟩; refine ⟨_, rfl, ?_⟩; have n0_ := Aside0.mk (Kd.R_elder' (by (with_reducible repeat (first | apply Kd.R_alloc | apply Kd.R_drewN | apply Kd.R_drew)); exact HO553.out) (Kd.R_base ho0) hb); have n1_ := Aside0.mk (Kd.R_lower (Kd.R_new' ho0 (Kd.R_lt (by (with_reducible repeat (first | apply Kd.R_alloc | apply Kd.R_drewN | apply Kd.R_drew)); exact HO553.out))) (kJ (by repeat (first | (with_reducible first | exact HB.out | apply kC | apply kA | apply kB) | exact HB.out)))); have n2_ := Aside0.mk (kK (by repeat (first | (with_reducible first | exact HB.out | apply kC | apply kA | apply kB) | exact HB.out)) hb); clear HO553; clear HB; have HO553 := n0_; have HO557 := n1_; have HB := n2_; clear n0_ n1_ n2_; (try clear hb); (try clear hb2); (try clear hk); (try clear hi); (try clear ho0)) | ((with_reducible refine kM (f := 137) rfl ?_); refine kP (some 13) rfl rfl Tryz.func137 (by kernel_rfl) rfl #[.int .i64 a0] rfl (by (try simp only [List.map_toArray, List.map_cons, List.map_nil]); first | done | rfl | (simp only [List.length_drop, List.length_take]; rfl)) ?_; (with_reducible refine (computusref01_Of.calls a0 t558 t559 _ A6.out).mono ?_); rintro e w15 ⟨v560, rfl, ho0, hb⟩; refine ⟨_, rfl, ?_⟩; have n0_ := Aside0.mk (Kd.R_elder' (by (with_reducible repeat (first | apply Kd.R_alloc | apply Kd.R_drewN | apply Kd.R_drew)); exact HO553.out) (Kd.R_base ho0) hb); have n1_ := Aside0.mk (Kd.R_elder' (by (with_reducible repeat (first | apply Kd.R_alloc | apply Kd.R_drewN | apply Kd.R_drew)); exact HO557.out) (Kd.R_base ho0) hb); have n2_ := Aside0.mk (Kd.R_lower (Kd.R_new' (Kd.R_new' ho0 (Kd.R_lt (by (with_reducible repeat (first | apply Kd.R_alloc | apply Kd.R_drewN | apply Kd.R_drew)); exact HO553.out))) (Kd.R_lt (by (with_reducible repeat (first | apply Kd.R_alloc | apply Kd.R_drewN | apply Kd.R_drew)); exact HO557.out))) (kJ (by repeat (first | (with_reducible first | exact HB.out | apply kC | apply kA | apply kB) | exact HB.out)))); have n3_ := Aside0.mk (kK (by repeat (first | (with_reducible first | exact HB.out | apply kC | apply kA | apply kB) | exact HB.out)) hb); clear HO553; clear HO557; clear HB; have HO553 := n0_; have HO557 := n1_; have HO561 := n2_; have HB := n3_; clear n0_ n1_ n2_ n3_; (try clear hb); (try clear hb2); (try clear hk); (try clear hi); (try clear ho0)) | ((with_reducible refine kM (f := 137) rfl ?_); refine kP (some 15) rfl rfl Tryz.func137 (by kernel_rfl) rfl #[.int .i64 a1] rfl (by (try simp only [List.map_toArray, List.map_cons, List.map_nil]); first | done | rfl | (simp only [List.length_drop, List.length_take]; rfl)) ?_; (with_reducible refine (computusref01_Of.calls a1 t562 t563 _ A7.out).mono ?_); rintro e w16 ⟨v564, rfl, ho0, hb⟩; refine ⟨_, rfl, ?_⟩; have n0_ := Aside0.mk (Kd.R_elder' (by (with_reducible repeat (first | apply Kd.R_alloc | apply Kd.R_drewN | apply Kd.R_drew)); exact HO553.out) (Kd.R_base ho0) hb); have n1_ := Aside0.mk (Kd.R_elder' (by (with_reducible repeat (first | apply Kd.R_alloc | apply Kd.R_drewN | apply Kd.R_drew)); exact HO557.out) (Kd.R_base ho0) hb); have n2_ := Aside0.mk (Kd.R_elder' (by (with_reducible repeat (first | apply Kd.R_alloc | apply Kd.R_drewN | apply Kd.R_drew)); exact HO561.out) (Kd.R_base ho0) hb); have n3_ := Aside0.mk (Kd.R_lower (Kd.R_new' (Kd.R_new' (Kd.R_new' ho0 (Kd.R_lt (by (with_reducible repeat (first | apply Kd.R_alloc | apply Kd.R_drewN | apply Kd.R_drew)); exact HO553.out))) (Kd.R_lt (by (with_reducible repeat (first | apply Kd.R_alloc | apply Kd.R_drewN | apply Kd.R_drew)); exact HO557.out))) (Kd.R_lt (by (with_reducible repeat (first | apply Kd.R_alloc | apply Kd.R_drewN | apply Kd.R_drew)); exact HO561.out))) (kJ (by repeat (first | (with_reducible first | exact HB.out | apply kC | apply kA | apply kB) | exact HB.out)))); have n4_ := Aside0.mk (kK (by repeat (first | (with_reducible first | exact HB.out | apply kC | apply kA | apply kB) | exact HB.out)) hb); clear HO553; clear HO557; clear HO561; clear HB; have HO553 := n0_; have HO557 := n1_; have HO561 := n2_; have HO565 := n3_; have HB := n4_; clear n0_ n1_ n2_ n3_ n4_; (try clear hb); (try clear hb2); (try clear hk); (try clear hi); (try clear ho0); obtain ⟨Ao17, co17, eo17⟩ := Kd.R_slice HO561.out; subst eo17; obtain ⟨Ao18, co18, eo18⟩ := Kd.R_slice HO565.out; subst eo18) | ((with_reducible refine kM (f := 136) rfl ?_); refine kP (some 16) rfl rfl Tryz.func136 (by kernel_rfl) rfl #[.agg #[.bool t558, .slice Ao17 t559.length co17], .agg #[.bool t562, .slice Ao18 t563.length co18]] rfl (by (try simp only [List.map_toArray, List.map_cons, List.map_nil]); first | done | rfl | (simp only [List.length_drop, List.length_take]; rfl)) ?_; (with_reducible refine (computusref01_Over.calls k t558 _ _ t559 t562 _ _ t563 t566 t567 _ ?side1 ?side2 ?side3 ?side4 A8.out).mono ?_); (case side1 => repeat (first | exact (Kd.R_reads' HO561.out).2.2 | (with_reducible refine Kd.C_alloc ?_ _) | (with_reducible refine Kd.C_drewN ?_ _) | (with_reducible refine Kd.C_drew ?_))); (case side2 => exact (Kd.R_reads' HO561.out).2.1); (case side3 => repeat (first | exact (Kd.R_reads' HO565.out).2.2 | (with_reducible refine Kd.C_alloc ?_ _) | (with_reducible refine Kd.C_drewN ?_ _) | (with_reducible refine Kd.C_drew ?_))); (case side4 => exact (Kd.R_reads' HO565.out).2.1); rintro e w19 ⟨v568, rfl, ho0, hb⟩; refine ⟨_, rfl, ?_⟩; have n0_ := Aside0.mk (Kd.R_elder' (by (with_reducible repeat (first | apply Kd.R_alloc | apply Kd.R_drewN | apply Kd.R_drew)); exact HO553.out) (Kd.R_base ho0) hb); have n1_ := Aside0.mk (Kd.R_elder' (by (with_reducible repeat (first | apply Kd.R_alloc | apply Kd.R_drewN | apply Kd.R_drew)); exact HO557.out) (Kd.R_base ho0) hb); have n2_ := Aside0.mk (Kd.R_elder' (by (with_reducible repeat (first | apply Kd.R_alloc | apply Kd.R_drewN | apply Kd.R_drew)); exact HO561.out) (Kd.R_base ho0) hb); have n3_ := Aside0.mk (Kd.R_elder' (by (with_reducible repeat (first | apply Kd.R_alloc | apply Kd.R_drewN | apply Kd.R_drew)); exact HO565.out) (Kd.R_base ho0) hb); have n4_ := Aside0.mk (Kd.R_lower (Kd.R_new' (Kd.R_new' (Kd.R_new' (Kd.R_new' ho0 (Kd.R_lt (by (with_reducible repeat (first | apply Kd.R_alloc | apply Kd.R_drewN | apply Kd.R_drew)); exact HO553.out))) (Kd.R_lt (by (with_reducible repeat (first | apply Kd.R_alloc | apply Kd.R_drewN | apply Kd.R_drew)); exact HO557.out))) (Kd.R_lt (by (with_reducible repeat (first | apply Kd.R_alloc | apply Kd.R_drewN | apply Kd.R_drew)); exact HO561.out))) (Kd.R_lt (by (with_reducible repeat (first | apply Kd.R_alloc | apply Kd.R_drewN | apply Kd.R_drew)); exact HO565.out))) (kJ (by repeat (first | (with_reducible first | exact HB.out | apply kC | apply kA | apply kB) | exact HB.out)))); have n5_ := Aside0.mk (kK (by repeat (first | (with_reducible first | exact HB.out | apply kC | apply kA | apply kB) | exact HB.out)) hb); clear HO553; clear HO557; clear HO561; clear HO565; clear HB; have HO553 := n0_; have HO557 := n1_; have HO561 := n2_; have HO565 := n3_; have HO569 := n4_; have HB := n5_; clear n0_ n1_ n2_ n3_ n4_ n5_; (try clear hb); (try clear hb2); (try clear hk); (try clear hi); (try clear ho0); obtain ⟨Ao20, co20, eo20⟩ := Kd.R_slice HO557.out; subst eo20; obtain ⟨Ao21, co21, eo21⟩ := Kd.R_slice HO569.out; subst eo21) | ((with_reducible refine kM (f := 140) rfl ?_); refine kP (some 17) rfl rfl Tryz.func140 (by kernel_rfl) rfl #[.agg #[.bool t554, .slice Ao20 t555.length co20], .agg #[.bool t566, .slice Ao21 t567.length co21]] rfl (by (try simp only [List.map_toArray, List.map_cons, List.map_nil]); first | done | rfl | (simp only [List.length_drop, List.length_take]; rfl)) ?_; (with_reducible refine (computusref01_Times.calls k t554 _ _ t555 t566 _ _ t567 t570 t571 _ ?side1 ?side2 ?side3 ?side4 A9.out).mono ?_); (case side1 => repeat (first | exact (Kd.R_reads' HO557.out).2.2 | (with_reducible refine Kd.C_alloc ?_ _) | (with_reducible refine Kd.C_drewN ?_ _) | (with_reducible refine Kd.C_drew ?_))); (case side2 => exact (Kd.R_reads' HO557.out).2.1); (case side3 => repeat (first | exact (Kd.R_reads' HO569.out).2.2 | (with_reducible refine Kd.C_alloc ?_ _) | (with_reducible refine Kd.C_drewN ?_ _) | (with_reducible refine Kd.C_drew ?_))); (case side4 => exact (Kd.R_reads' HO569.out).2.1); rintro e w22 ⟨v572, rfl, ho0, hb⟩; refine ⟨_, rfl, ?_⟩; have n0_ := Aside0.mk (Kd.R_elder' (by (with_reducible repeat (first | apply Kd.R_alloc | apply Kd.R_drewN | apply Kd.R_drew)); exact HO553.out) (Kd.R_base ho0) hb); have n1_ := Aside0.mk (Kd.R_elder' (by (with_reducible repeat (first | apply Kd.R_alloc | apply Kd.R_drewN | apply Kd.R_drew)); exact HO557.out) (Kd.R_base ho0) hb); have n2_ := Aside0.mk (Kd.R_elder' (by (with_reducible repeat (first | apply Kd.R_alloc | apply Kd.R_drewN | apply Kd.R_drew)); exact HO561.out) (Kd.R_base ho0) hb); have n3_ := Aside0.mk (Kd.R_elder' (by (with_reducible repeat (first | apply Kd.R_alloc | apply Kd.R_drewN | apply Kd.R_drew)); exact HO565.out) (Kd.R_base ho0) hb); have n4_ := Aside0.mk (Kd.R_elder' (by (with_reducible repeat (first | apply Kd.R_alloc | apply Kd.R_drewN | apply Kd.R_drew)); exact HO569.out) (Kd.R_base ho0) hb); have n5_ := Aside0.mk (Kd.R_lower (Kd.R_new' (Kd.R_new' (Kd.R_new' (Kd.R_new' (Kd.R_new' ho0 (Kd.R_lt (by (with_reducible repeat (first | apply Kd.R_alloc | apply Kd.R_drewN | apply Kd.R_drew)); exact HO553.out))) (Kd.R_lt (by (with_reducible repeat (first | apply Kd.R_alloc | apply Kd.R_drewN | apply Kd.R_drew)); exact HO557.out))) (Kd.R_lt (by (with_reducible repeat (first | apply Kd.R_alloc | apply Kd.R_drewN | apply Kd.R_drew)); exact HO561.out))) (Kd.R_lt (by (with_reducible repeat (first | apply Kd.R_alloc | apply Kd.R_drewN | apply Kd.R_drew)); exact HO565.out))) (Kd.R_lt (by (with_reducible repeat (first | apply Kd.R_alloc | apply Kd.R_drewN | apply Kd.R_drew)); exact HO569.out))) (kJ (by repeat (first | (with_reducible first | exact HB.out | apply kC | apply kA | apply kB) | exact HB.out)))); have n6_ := Aside0.mk (kK (by repeat (first | (with_reducible first | exact HB.out | apply kC | apply kA | apply kB) | exact HB.out)) hb); clear HO553; clear HO557; clear HO561; clear HO565; clear HO569; clear HB; have HO553 := n0_; have HO557 := n1_; have HO561 := n2_; have HO565 := n3_; have HO569 := n4_; have HO573 := n5_; have HB := n6_; clear n0_ n1_ n2_ n3_ n4_ n5_ n6_; (try clear hb); (try clear hb2); (try clear hk); (try clear hi); (try clear ho0); obtain ⟨Ao23, co23, eo23⟩ := Kd.R_slice HO573.out; subst eo23) | ((with_reducible refine kM (f := 139) rfl ?_); refine kP (some 18) rfl rfl Tryz.func139 (by kernel_rfl) rfl #[.agg #[.bool t570, .slice Ao23 t571.length co23]] rfl (by (try simp only [List.map_toArray, List.map_cons, List.map_nil]); first | done | rfl | (simp only [List.length_drop, List.length_take]; rfl)) ?_; (with_reducible refine (computusref01_Minus.calls k t570 (fun k_ => some k_ = (.slice Ao23 t571.length co23 : Value).ownBlock) (.slice Ao23 t571.length co23) t571 t574 t575 w _ ?side1 ?side2 A10.out).mono ?_); (case side1 => repeat (first | (with_reducible first | exact HB.out | apply kC | apply kA | apply kB) | exact HB.out)); (case side2 => exact Kd.R_tight rfl HO573.out); rintro e w24 ⟨v576, rfl, ho0, hb, hkp⟩; refine ⟨_, rfl, ?_⟩; have n0_ := Aside0.mk (Kd.R_mono (ok' := fun k_ => some k_ ≠ (.slice Ao20 t555.length co20 : Value).ownBlock ∧ some k_ ≠ (.slice Ao17 t559.length co17 : Value).ownBlock ∧ some k_ ≠ (.slice Ao18 t563.length co18 : Value).ownBlock ∧ some k_ ≠ (.slice Ao21 t567.length co21 : Value).ownBlock ∧ some k_ ≠ (v576 : Value).ownBlock) (Kd.R_keptB (HO553.out) hkp (fun k_ hk_ hs_ => (hk_.2) hs_)) (fun k_ hk_ => ⟨hk_.1.1.1.1.1.2, hk_.1.1.1.1.2, hk_.1.1.1.2, hk_.1.1.2, fun e_ => Or.elim (ho0.1 k_ e_.symm) (fun hs_ => hk_.2.1 hs_) (fun hn_ => Nat.not_le.2 hk_.2.2 hn_)⟩)); have n1_ := Aside0.mk (Kd.R_mono (ok' := fun k_ => some k_ ≠ (v552 : Value).ownBlock ∧ some k_ ≠ (.slice Ao17 t559.length co17 : Value).ownBlock ∧ some k_ ≠ (.slice Ao18 t563.length co18 : Value).ownBlock ∧ some k_ ≠ (.slice Ao21 t567.length co21 : Value).ownBlock ∧ some k_ ≠ (v576 : Value).ownBlock) (Kd.R_keptB (HO557.out) hkp (fun k_ hk_ hs_ => (hk_.2) hs_)) (fun k_ hk_ => ⟨hk_.1.1.1.1.1.2, hk_.1.1.1.1.2, hk_.1.1.1.2, hk_.1.1.2, fun e_ => Or.elim (ho0.1 k_ e_.symm) (fun hs_ => hk_.2.1 hs_) (fun hn_ => Nat.not_le.2 hk_.2.2 hn_)⟩)); have n2_ := Aside0.mk (Kd.R_mono (ok' := fun k_ => some k_ ≠ (v552 : Value).ownBlock ∧ some k_ ≠ (.slice Ao20 t555.length co20 : Value).ownBlock ∧ some k_ ≠ (.slice Ao18 t563.length co18 : Value).ownBlock ∧ some k_ ≠ (.slice Ao21 t567.length co21 : Value).ownBlock ∧ some k_ ≠ (v576 : Value).ownBlock) (Kd.R_keptB (HO561.out) hkp (fun k_ hk_ hs_ => (hk_.2) hs_)) (fun k_ hk_ => ⟨hk_.1.1.1.1.1.2, hk_.1.1.1.1.2, hk_.1.1.1.2, hk_.1.1.2, fun e_ => Or.elim (ho0.1 k_ e_.symm) (fun hs_ => hk_.2.1 hs_) (fun hn_ => Nat.not_le.2 hk_.2.2 hn_)⟩)); have n3_ := Aside0.mk (Kd.R_mono (ok' := fun k_ => some k_ ≠ (v552 : Value).ownBlock ∧ some k_ ≠ (.slice Ao20 t555.length co20 : Value).ownBlock ∧ some k_ ≠ (.slice Ao17 t559.length co17 : Value).ownBlock ∧ some k_ ≠ (.slice Ao21 t567.length co21 : Value).ownBlock ∧ some k_ ≠ (v576 : Value).ownBlock) (Kd.R_keptB (HO565.out) hkp (fun k_ hk_ hs_ => (hk_.2) hs_)) (fun k_ hk_ => ⟨hk_.1.1.1.1.1.2, hk_.1.1.1.1.2, hk_.1.1.1.2, hk_.1.1.2, fun e_ => Or.elim (ho0.1 k_ e_.symm) (fun hs_ => hk_.2.1 hs_) (fun hn_ => Nat.not_le.2 hk_.2.2 hn_)⟩)); have n4_ := Aside0.mk (Kd.R_mono (ok' := fun k_ => some k_ ≠ (v552 : Value).ownBlock ∧ some k_ ≠ (.slice Ao20 t555.length co20 : Value).ownBlock ∧ some k_ ≠ (.slice Ao17 t559.length co17 : Value).ownBlock ∧ some k_ ≠ (.slice Ao18 t563.length co18 : Value).ownBlock ∧ some k_ ≠ (v576 : Value).ownBlock) (Kd.R_keptB (HO569.out) hkp (fun k_ hk_ hs_ => (hk_.2) hs_)) (fun k_ hk_ => ⟨hk_.1.1.1.1.1.2, hk_.1.1.1.1.2, hk_.1.1.1.2, hk_.1.1.2, fun e_ => Or.elim (ho0.1 k_ e_.symm) (fun hs_ => hk_.2.1 hs_) (fun hn_ => Nat.not_le.2 hk_.2.2 hn_)⟩)); have n5_ := Aside0.mk (Kd.R_mono (ok' := fun k_ => some k_ ≠ (v552 : Value).ownBlock ∧ some k_ ≠ (.slice Ao20 t555.length co20 : Value).ownBlock ∧ some k_ ≠ (.slice Ao17 t559.length co17 : Value).ownBlock ∧ some k_ ≠ (.slice Ao18 t563.length co18 : Value).ownBlock ∧ some k_ ≠ (.slice Ao21 t567.length co21 : Value).ownBlock) ho0 (fun k_ hk_ => ⟨Or.elim hk_ (fun hs_ => fun e_ => (((HO553.out).1 k_ e_.symm).2) hs_) (fun hn_ => (Kd.fresh' (Kd.R_lt (by (with_reducible repeat (first | apply Kd.R_alloc | apply Kd.R_drewN | apply Kd.R_drew)); exact HO553.out)) k_ hn_)), Or.elim hk_ (fun hs_ => fun e_ => (((HO557.out).1 k_ e_.symm).2) hs_) (fun hn_ => (Kd.fresh' (Kd.R_lt (by (with_reducible repeat (first | apply Kd.R_alloc | apply Kd.R_drewN | apply Kd.R_drew)); exact HO557.out)) k_ hn_)), Or.elim hk_ (fun hs_ => fun e_ => (((HO561.out).1 k_ e_.symm).2) hs_) (fun hn_ => (Kd.fresh' (Kd.R_lt (by (with_reducible repeat (first | apply Kd.R_alloc | apply Kd.R_drewN | apply Kd.R_drew)); exact HO561.out)) k_ hn_)), Or.elim hk_ (fun hs_ => fun e_ => (((HO565.out).1 k_ e_.symm).2) hs_) (fun hn_ => (Kd.fresh' (Kd.R_lt (by (with_reducible repeat (first | apply Kd.R_alloc | apply Kd.R_drewN | apply Kd.R_drew)); exact HO565.out)) k_ hn_)), Or.elim hk_ (fun hs_ => fun e_ => (((HO569.out).1 k_ e_.symm).2) hs_) (fun hn_ => (Kd.fresh' (Kd.R_lt (by (with_reducible repeat (first | apply Kd.R_alloc | apply Kd.R_drewN | apply Kd.R_drew)); exact HO569.out)) k_ hn_))⟩)); have n6_ := Aside0.mk (hb); clear HO553; clear HO557; clear HO561; clear HO565; clear HO569; clear HB; clear HO573; have HO553 := n0_; have HO557 := n1_; have HO561 := n2_; have HO565 := n3_; have HO569 := n4_; have HO577 := n5_; have HB := n6_; clear n0_ n1_ n2_ n3_ n4_ n5_ n6_; (try clear hb); (try clear hkp); (try clear ho0); obtain ⟨Ao25, co25, eo25⟩ := Kd.R_slice HO553.out; subst eo25; obtain ⟨Ao26, co26, eo26⟩ := Kd.R_slice HO577.out; subst eo26) | ((with_reducible refine kM (f := 138) rfl ?_); refine kP (some 19) rfl rfl Tryz.func138 (by kernel_rfl) rfl #[.agg #[.bool t550, .slice Ao25 t551.length co25], .agg #[.bool t574, .slice Ao26 t575.length co26]] rfl (by (try simp only [List.map_toArray, List.map_cons, List.map_nil]); first | done | rfl | (simp only [List.length_drop, List.length_take]; rfl)) ?_; (with_reducible refine (computusref01_Plus.calls k t550 _ _ t551 t574 _ _ t575 t578 t579 _ ?side1 ?side2 ?side3 ?side4 A11.out).mono ?_); (case side1 => repeat (first | exact (Kd.R_reads' HO553.out).2.2 | (with_reducible refine Kd.C_alloc ?_ _) | (with_reducible refine Kd.C_drewN ?_ _) | (with_reducible refine Kd.C_drew ?_))); (case side2 => exact (Kd.R_reads' HO553.out).2.1); (case side3 => repeat (first | exact (Kd.R_reads' HO577.out).2.2 | (with_reducible refine Kd.C_alloc ?_ _) | (with_reducible refine Kd.C_drewN ?_ _) | (with_reducible refine Kd.C_drew ?_))); (case side4 => exact (Kd.R_reads' HO577.out).2.1); rintro e w27 ⟨v580, rfl, ho0, hb⟩; refine ⟨_, rfl, ?_⟩; have n0_ := Aside0.mk (Kd.R_elder' (by (with_reducible repeat (first | apply Kd.R_alloc | apply Kd.R_drewN | apply Kd.R_drew)); exact HO553.out) (Kd.R_base ho0) hb); have n1_ := Aside0.mk (Kd.R_elder' (by (with_reducible repeat (first | apply Kd.R_alloc | apply Kd.R_drewN | apply Kd.R_drew)); exact HO557.out) (Kd.R_base ho0) hb); have n2_ := Aside0.mk (Kd.R_elder' (by (with_reducible repeat (first | apply Kd.R_alloc | apply Kd.R_drewN | apply Kd.R_drew)); exact HO561.out) (Kd.R_base ho0) hb); have n3_ := Aside0.mk (Kd.R_elder' (by (with_reducible repeat (first | apply Kd.R_alloc | apply Kd.R_drewN | apply Kd.R_drew)); exact HO565.out) (Kd.R_base ho0) hb); have n4_ := Aside0.mk (Kd.R_elder' (by (with_reducible repeat (first | apply Kd.R_alloc | apply Kd.R_drewN | apply Kd.R_drew)); exact HO569.out) (Kd.R_base ho0) hb); have n5_ := Aside0.mk (Kd.R_elder' (by (with_reducible repeat (first | apply Kd.R_alloc | apply Kd.R_drewN | apply Kd.R_drew)); exact HO577.out) (Kd.R_base ho0) hb); have n6_ := Aside0.mk (Kd.R_lower (Kd.R_new' (Kd.R_new' (Kd.R_new' (Kd.R_new' (Kd.R_new' (Kd.R_new' ho0 (Kd.R_lt (by (with_reducible repeat (first | apply Kd.R_alloc | apply Kd.R_drewN | apply Kd.R_drew)); exact HO553.out))) (Kd.R_lt (by (with_reducible repeat (first | apply Kd.R_alloc | apply Kd.R_drewN | apply Kd.R_drew)); exact HO557.out))) (Kd.R_lt (by (with_reducible repeat (first | apply Kd.R_alloc | apply Kd.R_drewN | apply Kd.R_drew)); exact HO561.out))) (Kd.R_lt (by (with_reducible repeat (first | apply Kd.R_alloc | apply Kd.R_drewN | apply Kd.R_drew)); exact HO565.out))) (Kd.R_lt (by (with_reducible repeat (first | apply Kd.R_alloc | apply Kd.R_drewN | apply Kd.R_drew)); exact HO569.out))) (Kd.R_lt (by (with_reducible repeat (first | apply Kd.R_alloc | apply Kd.R_drewN | apply Kd.R_drew)); exact HO577.out))) (kJ (by repeat (first | (with_reducible first | exact HB.out | apply kC | apply kA | apply kB) | exact HB.out)))); have n7_ := Aside0.mk (kK (by repeat (first | (with_reducible first | exact HB.out | apply kC | apply kA | apply kB) | exact HB.out)) hb); clear HO553; clear HO557; clear HO561; clear HO565; clear HO569; clear HO577; clear HB; have HO553 := n0_; have HO557 := n1_; have HO561 := n2_; have HO565 := n3_; have HO569 := n4_; have HO577 := n5_; have HO581 := n6_; have HB := n7_; clear n0_ n1_ n2_ n3_ n4_ n5_ n6_ n7_; (try clear hb); (try clear hb2); (try clear hk); (try clear hi); (try clear ho0); obtain ⟨Ao28, co28, eo28⟩ := Kd.R_slice HO581.out; subst eo28) | ((with_reducible refine kM (f := 135) rfl ?_); refine kP (some 20) rfl rfl Tryz.func135 (by kernel_rfl) rfl #[.agg #[.bool t578, .slice Ao28 t579.length co28]] rfl (by (try simp only [List.map_toArray, List.map_cons, List.map_nil]); first | done | rfl | (simp only [List.length_drop, List.length_take]; rfl)) ?_; (with_reducible refine (computusref01_Small.calls k t578 _ _ t579 t582 t583 _ ?side1 ?side2 A12.out).mono ?_); (case side1 => repeat (first | exact (Kd.R_reads' HO581.out).2.2 | (with_reducible refine Kd.C_alloc ?_ _) | (with_reducible refine Kd.C_drewN ?_ _) | (with_reducible refine Kd.C_drew ?_))); (case side2 => exact (Kd.R_reads' HO581.out).2.1); rintro e w29 ⟨rfl, hb⟩; refine ⟨_, rfl, ?_⟩; have n0_ := Aside0.mk (Kd.R_below (by (with_reducible repeat (first | apply Kd.R_alloc | apply Kd.R_drewN | apply Kd.R_drew)); exact HO553.out) hb); have n1_ := Aside0.mk (Kd.R_below (by (with_reducible repeat (first | apply Kd.R_alloc | apply Kd.R_drewN | apply Kd.R_drew)); exact HO557.out) hb); have n2_ := Aside0.mk (Kd.R_below (by (with_reducible repeat (first | apply Kd.R_alloc | apply Kd.R_drewN | apply Kd.R_drew)); exact HO561.out) hb); have n3_ := Aside0.mk (Kd.R_below (by (with_reducible repeat (first | apply Kd.R_alloc | apply Kd.R_drewN | apply Kd.R_drew)); exact HO565.out) hb); have n4_ := Aside0.mk (Kd.R_below (by (with_reducible repeat (first | apply Kd.R_alloc | apply Kd.R_drewN | apply Kd.R_drew)); exact HO569.out) hb); have n5_ := Aside0.mk (Kd.R_below (by (with_reducible repeat (first | apply Kd.R_alloc | apply Kd.R_drewN | apply Kd.R_drew)); exact HO577.out) hb); have n6_ := Aside0.mk (Kd.R_below (by (with_reducible repeat (first | apply Kd.R_alloc | apply Kd.R_drewN | apply Kd.R_drew)); exact HO581.out) hb); have n7_ := Aside0.mk (kK (by repeat (first | (with_reducible first | exact HB.out | apply kC | apply kA | apply kB) | exact HB.out)) hb); clear HO553; clear HO557; clear HO561; clear HO565; clear HO569; clear HO577; clear HO581; clear HB; have HO553 := n0_; have HO557 := n1_; have HO561 := n2_; have HO565 := n3_; have HO569 := n4_; have HO577 := n5_; have HO581 := n6_; have HB := n7_; clear n0_ n1_ n2_ n3_ n4_ n5_ n6_ n7_; (try clear hb); (try clear hb2); (try clear hk); (try clear hi)))
    go_ret2
    exact ⟨by first | rfl | (simp [errW_none, errW_some] <;> rfl) | (simp [*, errW_none, errW_some] <;> rfl), by repeat (first | (with_reducible first | exact HB.out | apply kC | apply kA | apply kB) | exact HB.out)⟩
def computusref01_Split.f (k : Nat) (a0 : Int) : Option (Int × Int) := (computusref01_Div.f k a0 86400000000).bind fun bt584 => ((computusref01_Mod.f k a0 86400000000).bind fun bt586 => (some (bt584.1, bt586.1)))
set_option maxHeartbeats 8000000 in
set_option maxRecDepth 100000 in
theorem computusref01_Split.calls (k : Nat) (a0 : Int) (r1 : Int) (r2 : Int) (w : World) (h : computusref01_Split.f k a0 = some (r1, r2)) :
    Calls Tryz.prog 48 #[.int .i64 a0] w fun e w' => e = .returned (.tuple #[.int .i64 r1, .int .i64 r2]) ∧ Below w.heap.size w w' := by
  have HB := Aside0.mk (Below.refl w.heap.size w)
  have H : ((computusref01_Div.f k a0 86400000000).bind fun bt584 => ((computusref01_Mod.f k a0 86400000000).bind fun bt586 => (some (bt584.1, bt586.1)))) = some (r1, r2) := h
  clear h
  replace H := Option.bind_eq_some_iff.mp H
  obtain ⟨⟨t584, t585⟩, A20, H⟩ := H
  replace H : ((computusref01_Mod.f k a0 86400000000).bind fun bt586 => (some (t584, bt586.1))) = some (r1, r2) := H
  have A2 := Aside0.mk A20
  clear A20
  replace H := Option.bind_eq_some_iff.mp H
  obtain ⟨⟨t586, t587⟩, A30, H⟩ := H
  replace H : (some (t584, t586)) = some (r1, r2) := H
  have A3 := Aside0.mk A30
  clear A30
  simp only [Option.some.injEq, Prod.mk.injEq] at H
  obtain ⟨rfl, rfl⟩ := H
  go_enter Tryz.func48, Tryz.ntmps48
  go_wp2_with (first | ((with_reducible refine kM (f := 98) rfl ?_); refine kP (some 10) rfl rfl Tryz.func98 (by kernel_rfl) rfl #[.int .i64 a0, .int .i64 86400000000] rfl (by (try simp only [List.map_toArray, List.map_cons, List.map_nil]); first | done | rfl | (simp only [List.length_drop, List.length_take]; rfl)) ?_; (with_reducible refine (computusref01_Div.calls k a0 86400000000 t584 t585 _ A2.out).mono ?_); rintro e w4 ⟨rfl, hb⟩; refine ⟨_, rfl, ?_⟩; have n0_ := Aside0.mk (kK (by repeat (first | (with_reducible first | exact HB.out | apply kC | apply kA | apply kB) | exact HB.out)) hb); clear HB; have HB := n0_; clear n0_; (try clear hb); (try clear hb2); (try clear hk); (try clear hi)) | ((with_reducible refine kM (f := 99) rfl ?_); refine kP (some 15) rfl rfl Tryz.func99 (by kernel_rfl) rfl #[.int .i64 a0, .int .i64 86400000000] rfl (by (try simp only [List.map_toArray, List.map_cons, List.map_nil]); first | done | rfl | (simp only [List.length_drop, List.length_take]; rfl)) ?_; (with_reducible refine (computusref01_Mod.calls k a0 86400000000 t586 t587 _ A3.out).mono ?_); rintro e w5 ⟨rfl, hb⟩; refine ⟨_, rfl, ?_⟩; have n0_ := Aside0.mk (kK (by repeat (first | (with_reducible first | exact HB.out | apply kC | apply kA | apply kB) | exact HB.out)) hb); clear HB; have HB := n0_; clear n0_; (try clear hb); (try clear hb2); (try clear hk); (try clear hi)))
  go_ret2
  exact ⟨by first | rfl | (simp [errW_none, errW_some] <;> rfl) | (simp [*, errW_none, errW_some] <;> rfl), by repeat (first | (with_reducible first | exact HB.out | apply kC | apply kA | apply kB) | exact HB.out)⟩
def computusref15_RightStamp.f (k : Nat) (a0_0 : Int) (a0_1 : Int) : Option (Bool) := if a0_0 = 0 then ((computusref01_Split.f k a0_1).bind fun bt589 => ((computusref15_inside.f k bt589.1).bind fun t591 => (some t591))) else (if a0_0 = (-1) then (some (a0_1 == 0)) else (if a0_0 = 1 then (some (a0_1 == 0)) else (some false)))
set_option maxHeartbeats 8000000 in
set_option maxRecDepth 100000 in
theorem computusref15_RightStamp.calls (k : Nat) (a0_0 : Int) (a0_1 : Int) (r : Bool) (w : World) (h : computusref15_RightStamp.f k a0_0 a0_1 = some r) :
    Calls Tryz.prog 13 #[.agg #[.int .i64 a0_0, .int .i64 a0_1]] w fun e w' => e = .returned (.bool r) ∧ Below w.heap.size w w' := by
  have hu23 := Tryz.underlying23
  have HB := Aside0.mk (Below.refl w.heap.size w)
  have H : (if a0_0 = 0 then ((computusref01_Split.f k a0_1).bind fun bt589 => ((computusref15_inside.f k bt589.1).bind fun t591 => (some t591))) else (if a0_0 = (-1) then (some (a0_1 == 0)) else (if a0_0 = 1 then (some (a0_1 == 0)) else (some false)))) = some r := h
  clear h
  by_cases c2 : a0_0 = 0
  · rw [if_pos c2] at H
    have c2b0 : (a0_0 == 0) = true := beq_iff_eq.mpr c2
    have c2b1 : (a0_0 != 0) = false := bne_eq_false_iff_eq.mpr c2
    clear c2
    replace H := Option.bind_eq_some_iff.mp H
    obtain ⟨⟨t589, t590⟩, A30, H⟩ := H
    replace H : ((computusref15_inside.f k t589).bind fun t591 => (some t591)) = some r := H
    have A3 := Aside0.mk A30
    clear A30
    replace H := Option.bind_eq_some_iff.mp H
    obtain ⟨t591, A40, H⟩ := H
    replace H : (some t591) = some r := H
    have A4 := Aside0.mk A40
    clear A40
    obtain rfl := Option.some.inj H
    go_enter Tryz.func13, Tryz.ntmps13
    go_wp2_with (first | ((with_reducible refine kN (N := 1) rfl ?_); refine kO ?hg (N := 1) ?hd (cs := #[.int .i64 a0_0, .int .i64 a0_1]) (t := 23) ?hr ?_; (case hd => rfl); (case hg => rfl); (case hr => first | (go_simp; done) | (go_simp; rfl)); intro gb588 hg w5 hbox hb; have n0_ := Aside0.mk (kK (by repeat (first | (with_reducible first | exact HB.out | apply kC | apply kA | apply kB) | exact HB.out)) hb); have n1_ := Aside0.mk (hbox); have n2_ := Aside0.mk ((by rw [hg]; exact (kJ (by repeat (first | (with_reducible first | exact HB.out | apply kC | apply kA | apply kB) | exact HB.out))) : w.heap.size ≤ gb588)); have n3_ := Aside0.mk ((by rw [hg]; exact (kJ (by repeat (first | (with_reducible first | exact HB.out | apply kC | apply kA | apply kB) | exact HB.out))) : w.heap.size ≤ gb588)); clear HB; have HB := n0_; have BK588 := n1_; have GW588 := n2_; have GE588 := n3_; clear n0_ n1_ n2_ n3_; clear hb hbox hg; have hcz6_0 : w5.cell? ⟨gb588, 0, none⟩ = some (.int .i64 a0_0) := (kI BK588.out 0).trans rfl; have hcz6_1 : w5.cell? ⟨gb588, 1, none⟩ = some (.int .i64 a0_1) := (kI BK588.out 1).trans rfl; have hfz6_0 := kH BK588.out 0; have hfz6_1 := kH BK588.out 1) | ((with_reducible refine kM (f := 48) rfl ?_); refine kP (some 11) rfl rfl Tryz.func48 (by kernel_rfl) rfl #[.int .i64 a0_1] rfl (by (try simp only [List.map_toArray, List.map_cons, List.map_nil]); first | done | rfl | (simp only [List.length_drop, List.length_take]; rfl)) ?_; (with_reducible refine (computusref01_Split.calls k a0_1 t589 t590 _ A3.out).mono ?_); rintro e w7 ⟨rfl, hb⟩; refine ⟨_, rfl, ?_⟩; have n0_ := Aside0.mk (kL (g := gb588) (o := .cells #[.int .i64 a0_0, .int .i64 a0_1] 23 (0, 0)) (by (with_reducible repeat (first | refine kF ?_ _ | refine kG ?_ | refine kE ?_ _)); exact BK588.out) hb); have n1_ := Aside0.mk (kK (by repeat (first | (with_reducible first | exact HB.out | apply kC | apply kA | apply kB | refine kD ?_ GE588.out) | exact HB.out)) hb); clear BK588; clear HB; have BK588 := n0_; have HB := n1_; clear n0_ n1_; (try clear hb); (try clear hb2); (try clear hk); (try clear hi)) | ((with_reducible refine kM (f := 49) rfl ?_); refine kP (some 15) rfl rfl Tryz.func49 (by kernel_rfl) rfl #[.int .i64 t589] rfl (by (try simp only [List.map_toArray, List.map_cons, List.map_nil]); first | done | rfl | (simp only [List.length_drop, List.length_take]; rfl)) ?_; (with_reducible refine (computusref15_inside.calls k t589 t591 _ A4.out).mono ?_); rintro e w' ⟨rfl, ⟨nd, rfl⟩⟩; refine ⟨_, rfl, ?_⟩))
    go_ret
    exact ⟨by first | rfl | (simp [errW_none, errW_some] <;> rfl) | (simp [*, errW_none, errW_some] <;> rfl), by repeat (first | (with_reducible first | exact HB.out | apply kC | apply kA | apply kB | refine kD ?_ GE588.out) | exact HB.out)⟩
  · rw [if_neg c2] at H
    have c2b0 : (a0_0 == 0) = false := beq_eq_false_iff_ne.mpr c2
    have c2b1 : (a0_0 != 0) = true := bne_iff_ne.mpr c2
    by_cases c8 : a0_0 = (-1)
    · rw [if_pos c8] at H
      have c8b0 : (a0_0 == (-1)) = true := beq_iff_eq.mpr c8
      have c8b1 : (a0_0 != (-1)) = false := bne_eq_false_iff_eq.mpr c8
      clear c8
      obtain rfl := Option.some.inj H
      go_enter Tryz.func13, Tryz.ntmps13
      go_wp2_with (first | ((with_reducible refine kN (N := 1) rfl ?_); refine kO ?hg (N := 1) ?hd (cs := #[.int .i64 a0_0, .int .i64 a0_1]) (t := 23) ?hr ?_; (case hd => rfl); (case hg => rfl); (case hr => first | (go_simp; done) | (go_simp; rfl)); intro gb588 hg w9 hbox hb; have n0_ := Aside0.mk (kK (by repeat (first | (with_reducible first | exact HB.out | apply kC | apply kA | apply kB) | exact HB.out)) hb); have n1_ := Aside0.mk (hbox); have n2_ := Aside0.mk ((by rw [hg]; exact (kJ (by repeat (first | (with_reducible first | exact HB.out | apply kC | apply kA | apply kB) | exact HB.out))) : w.heap.size ≤ gb588)); have n3_ := Aside0.mk ((by rw [hg]; exact (kJ (by repeat (first | (with_reducible first | exact HB.out | apply kC | apply kA | apply kB) | exact HB.out))) : w.heap.size ≤ gb588)); clear HB; have HB := n0_; have BK588 := n1_; have GW588 := n2_; have GE588 := n3_; clear n0_ n1_ n2_ n3_; clear hb hbox hg; have hcz10_0 : w9.cell? ⟨gb588, 0, none⟩ = some (.int .i64 a0_0) := (kI BK588.out 0).trans rfl; have hcz10_1 : w9.cell? ⟨gb588, 1, none⟩ = some (.int .i64 a0_1) := (kI BK588.out 1).trans rfl; have hfz10_0 := kH BK588.out 0; have hfz10_1 := kH BK588.out 1))
      go_ret
      exact ⟨by first | rfl | (simp [errW_none, errW_some] <;> rfl) | (simp [*, errW_none, errW_some] <;> rfl), by repeat (first | (with_reducible first | exact HB.out | apply kC | apply kA | apply kB | refine kD ?_ GE588.out) | exact HB.out)⟩
    · rw [if_neg c8] at H
      have c8b0 : (a0_0 == (-1)) = false := beq_eq_false_iff_ne.mpr c8
      have c8b1 : (a0_0 != (-1)) = true := bne_iff_ne.mpr c8
      by_cases c11 : a0_0 = 1
      · rw [if_pos c11] at H
        have c11b0 : (a0_0 == 1) = true := beq_iff_eq.mpr c11
        have c11b1 : (a0_0 != 1) = false := bne_eq_false_iff_eq.mpr c11
        clear c11
        obtain rfl := Option.some.inj H
        go_enter Tryz.func13, Tryz.ntmps13
        go_wp2_with (first | ((with_reducible refine kN (N := 1) rfl ?_); refine kO ?hg (N := 1) ?hd (cs := #[.int .i64 a0_0, .int .i64 a0_1]) (t := 23) ?hr ?_; (case hd => rfl); (case hg => rfl); (case hr => first | (go_simp; done) | (go_simp; rfl)); intro gb588 hg w12 hbox hb; have n0_ := Aside0.mk (kK (by repeat (first | (with_reducible first | exact HB.out | apply kC | apply kA | apply kB) | exact HB.out)) hb); have n1_ := Aside0.mk (hbox); have n2_ := Aside0.mk ((by rw [hg]; exact (kJ (by repeat (first | (with_reducible first | exact HB.out | apply kC | apply kA | apply kB) | exact HB.out))) : w.heap.size ≤ gb588)); have n3_ := Aside0.mk ((by rw [hg]; exact (kJ (by repeat (first | (with_reducible first | exact HB.out | apply kC | apply kA | apply kB) | exact HB.out))) : w.heap.size ≤ gb588)); clear HB; have HB := n0_; have BK588 := n1_; have GW588 := n2_; have GE588 := n3_; clear n0_ n1_ n2_ n3_; clear hb hbox hg; have hcz13_0 : w12.cell? ⟨gb588, 0, none⟩ = some (.int .i64 a0_0) := (kI BK588.out 0).trans rfl; have hcz13_1 : w12.cell? ⟨gb588, 1, none⟩ = some (.int .i64 a0_1) := (kI BK588.out 1).trans rfl; have hfz13_0 := kH BK588.out 0; have hfz13_1 := kH BK588.out 1))
        go_ret
        exact ⟨by first | rfl | (simp [errW_none, errW_some] <;> rfl) | (simp [*, errW_none, errW_some] <;> rfl), by repeat (first | (with_reducible first | exact HB.out | apply kC | apply kA | apply kB | refine kD ?_ GE588.out) | exact HB.out)⟩
      · rw [if_neg c11] at H
        have c11b0 : (a0_0 == 1) = false := beq_eq_false_iff_ne.mpr c11
        have c11b1 : (a0_0 != 1) = true := bne_iff_ne.mpr c11
        obtain rfl := Option.some.inj H
        go_enter Tryz.func13, Tryz.ntmps13
        go_wp2_with (first | ((with_reducible refine kN (N := 1) rfl ?_); refine kO ?hg (N := 1) ?hd (cs := #[.int .i64 a0_0, .int .i64 a0_1]) (t := 23) ?hr ?_; (case hd => rfl); (case hg => rfl); (case hr => first | (go_simp; done) | (go_simp; rfl)); intro gb588 hg w14 hbox hb; have n0_ := Aside0.mk (kK (by repeat (first | (with_reducible first | exact HB.out | apply kC | apply kA | apply kB) | exact HB.out)) hb); have n1_ := Aside0.mk (hbox); have n2_ := Aside0.mk ((by rw [hg]; exact (kJ (by repeat (first | (with_reducible first | exact HB.out | apply kC | apply kA | apply kB) | exact HB.out))) : w.heap.size ≤ gb588)); have n3_ := Aside0.mk ((by rw [hg]; exact (kJ (by repeat (first | (with_reducible first | exact HB.out | apply kC | apply kA | apply kB) | exact HB.out))) : w.heap.size ≤ gb588)); clear HB; have HB := n0_; have BK588 := n1_; have GW588 := n2_; have GE588 := n3_; clear n0_ n1_ n2_ n3_; clear hb hbox hg; have hcz15_0 : w14.cell? ⟨gb588, 0, none⟩ = some (.int .i64 a0_0) := (kI BK588.out 0).trans rfl; have hcz15_1 : w14.cell? ⟨gb588, 1, none⟩ = some (.int .i64 a0_1) := (kI BK588.out 1).trans rfl; have hfz15_0 := kH BK588.out 0; have hfz15_1 := kH BK588.out 1))
        go_ret
        exact ⟨by first | rfl | (simp [errW_none, errW_some] <;> rfl) | (simp [*, errW_none, errW_some] <;> rfl), by repeat (first | (with_reducible first | exact HB.out | apply kC | apply kA | apply kB | refine kD ?_ GE588.out) | exact HB.out)⟩
end Go.Proofs.YthkmckmfgglafaaGreat.P
namespace Go.Proofs.YthkmckmfgglafaaGreat.P
open Go.RowKit Go.Proofs.YthkmckmfgglafaaGreatW.PrintWords Go.Proofs.YthkmckmfgglafaaGreatW.PrintLast Go.Proofs.YthkmckmfgglafaaGreatW.PrintMore
open Go.Proofs.YthkmckmfgglafaaGreat.A
attribute [local go_sem] max2_int min2_int max_two min_two max_three min_three max_four min_four   -- for this text's walks alone
set_option linter.unusedVariables false
set_option linter.unusedSimpArgs false
-- NOT PRINTED: function 14 (computuslaw20_number)
def dec_Right.f (a0_0 : Int) (a0_1 : Int) : Option (Bool) := if a0_1 ≥ 0 then (some (decide (a0_1 ≤ 9))) else (some false)
set_option maxHeartbeats 8000000 in
set_option maxRecDepth 100000 in
theorem dec_Right.calls (a0_0 : Int) (a0_1 : Int) (r : Bool) (w : World) (h : dec_Right.f a0_0 a0_1 = some r) :
    Calls Tryz.prog 19 #[.agg #[.int .i64 a0_0, .int .i64 a0_1]] w fun e w' => e = .returned (.bool r) ∧ Below w.heap.size w w' := by
  have hu42 := Tryz.underlying42
  have HB := Aside0.mk (Below.refl w.heap.size w)
  have H : (if a0_1 ≥ 0 then (some (decide (a0_1 ≤ 9))) else (some false)) = some r := h
  clear h
  by_cases c2 : a0_1 ≥ 0
  · rw [if_pos c2] at H
    have c2b0 : decide (0 ≤ a0_1) = true := decide_eq_true c2
    clear c2
    obtain rfl := Option.some.inj H
    go_enter Tryz.func19, Tryz.ntmps19
    go_wp2_with (first | ((with_reducible refine kN (N := 1) rfl ?_); refine kO ?hg (N := 1) ?hd (cs := #[.int .i64 a0_0, .int .i64 a0_1]) (t := 42) ?hr ?_; (case hd => rfl); (case hg => rfl); (case hr => first | (go_simp; done) | (go_simp; rfl)); intro gb638 hg w3 hbox hb; have n0_ := Aside0.mk (kK (by repeat (first | (with_reducible first | exact HB.out | apply kC | apply kA | apply kB) | exact HB.out)) hb); have n1_ := Aside0.mk (hbox); have n2_ := Aside0.mk ((by rw [hg]; exact (kJ (by repeat (first | (with_reducible first | exact HB.out | apply kC | apply kA | apply kB) | exact HB.out))) : w.heap.size ≤ gb638)); have n3_ := Aside0.mk ((by rw [hg]; exact (kJ (by repeat (first | (with_reducible first | exact HB.out | apply kC | apply kA | apply kB) | exact HB.out))) : w.heap.size ≤ gb638)); clear HB; have HB := n0_; have BK638 := n1_; have GW638 := n2_; have GE638 := n3_; clear n0_ n1_ n2_ n3_; clear hb hbox hg; have hcz4_0 : w3.cell? ⟨gb638, 0, none⟩ = some (.int .i64 a0_0) := (kI BK638.out 0).trans rfl; have hcz4_1 : w3.cell? ⟨gb638, 1, none⟩ = some (.int .i64 a0_1) := (kI BK638.out 1).trans rfl; have hfz4_0 := kH BK638.out 0; have hfz4_1 := kH BK638.out 1))
    go_ret
    exact ⟨by first | rfl | (simp [errW_none, errW_some] <;> rfl) | (simp [*, errW_none, errW_some] <;> rfl), by repeat (first | (with_reducible first | exact HB.out | apply kC | apply kA | apply kB | refine kD ?_ GE638.out) | exact HB.out)⟩
  · rw [if_neg c2] at H
    have c2b0 : decide (0 ≤ a0_1) = false := decide_eq_false c2
    clear c2
    obtain rfl := Option.some.inj H
    go_enter Tryz.func19, Tryz.ntmps19
    go_wp2_with (first | ((with_reducible refine kN (N := 1) rfl ?_); refine kO ?hg (N := 1) ?hd (cs := #[.int .i64 a0_0, .int .i64 a0_1]) (t := 42) ?hr ?_; (case hd => rfl); (case hg => rfl); (case hr => first | (go_simp; done) | (go_simp; rfl)); intro gb638 hg w5 hbox hb; have n0_ := Aside0.mk (kK (by repeat (first | (with_reducible first | exact HB.out | apply kC | apply kA | apply kB) | exact HB.out)) hb); have n1_ := Aside0.mk (hbox); have n2_ := Aside0.mk ((by rw [hg]; exact (kJ (by repeat (first | (with_reducible first | exact HB.out | apply kC | apply kA | apply kB) | exact HB.out))) : w.heap.size ≤ gb638)); have n3_ := Aside0.mk ((by rw [hg]; exact (kJ (by repeat (first | (with_reducible first | exact HB.out | apply kC | apply kA | apply kB) | exact HB.out))) : w.heap.size ≤ gb638)); clear HB; have HB := n0_; have BK638 := n1_; have GW638 := n2_; have GE638 := n3_; clear n0_ n1_ n2_ n3_; clear hb hbox hg; have hcz6_0 : w5.cell? ⟨gb638, 0, none⟩ = some (.int .i64 a0_0) := (kI BK638.out 0).trans rfl; have hcz6_1 : w5.cell? ⟨gb638, 1, none⟩ = some (.int .i64 a0_1) := (kI BK638.out 1).trans rfl; have hfz6_0 := kH BK638.out 0; have hfz6_1 := kH BK638.out 1))
    go_ret
    exact ⟨by first | rfl | (simp [errW_none, errW_some] <;> rfl) | (simp [*, errW_none, errW_some] <;> rfl), by repeat (first | (with_reducible first | exact HB.out | apply kC | apply kA | apply kB | refine kD ?_ GE638.out) | exact HB.out)⟩
end Go.Proofs.YthkmckmfgglafaaGreat.P
namespace Go.Proofs.YthkmckmfgglafaaGreat.P
open Go.RowKit Go.Proofs.YthkmckmfgglafaaGreatW.PrintWords Go.Proofs.YthkmckmfgglafaaGreatW.PrintLast Go.Proofs.YthkmckmfgglafaaGreatW.PrintMore
open Go.Proofs.YthkmckmfgglafaaGreat.A
attribute [local go_sem] max2_int min2_int max_two min_two max_three min_three max_four min_four   -- for this text's walks alone
set_option linter.unusedVariables false
set_option linter.unusedSimpArgs false
open A in
noncomputable def mkR (k : Nat) : Con
  | [.agg [.int .i64 x, .int .i64 y]] => some ((day_RightStamp.f k x y).isSome, .bool (gd (day_RightStamp.f k x y)))
  | _ => none
open A in
noncomputable def mkO (k : Nat) : Con
  | [.agg [.int .i64 x, .int .i64 y]] => some ((day_Of.f k x y).isSome, .tup [.agg [.int .i64 (gd (day_Of.f k x y)).1, .int .i64 (gd (day_Of.f k x y)).2.1], .int .i64 (gd (day_Of.f k x y)).2.2.1, .int .i64 (gd (day_Of.f k x y)).2.2.2])
  | _ => none
open A in
noncomputable def mkP : Con
  | [.agg [.int .i64 x, .int .i64 y]] => some ((day_Parts.f x y).isSome, .tup [.int .i64 (gd (day_Parts.f x y)).1, .int .i64 (gd (day_Parts.f x y)).2.1, .int .i64 (gd (day_Parts.f x y)).2.2.1, .int .i64 (gd (day_Parts.f x y)).2.2.2])
  | _ => none
open A in
noncomputable def mkA : Con
  | [.int .i64 x, .int .i64 y] => some ((num_Add.f x y).isSome, .tup [.int .i64 (gd (num_Add.f x y)).1, .int .i64 (gd (num_Add.f x y)).2])
  | _ => none
def mkNum (k j : Nat) (i u : Int) : Option Int := (day_Of.f k i u).bind fun o => match j with
  | 0 => (day_Parts.f o.1 o.2.1).bind fun p => some (if p.1 < 1 then wrap64 (p.1 - 1) else p.1)
  | 1 => (day_Parts.f o.1 o.2.1).bind fun p => some p.2.1
  | 2 => (day_Parts.f o.1 o.2.1).bind fun p => some p.2.2.1
  | 3 => some (wrap64 (Int.tdiv o.2.2.1 3600000000))
  | 4 => some (wrap64 (Int.tdiv (Int.tmod o.2.2.1 3600000000) 60000000))
  | 5 => some (Int.tmod o.2.2.1 60000000)
  | 6 => (day_Parts.f o.1 o.2.1).bind fun p => some (wrap64 (Int.tdiv (wrap64 (p.2.1 + 2)) 3))
  | _ => none
def mkEp (u : Int) : Option (Int × Int × Int) := (num_Add.f u 946684800000000).bind fun a => some (if a.2 ≠ 0 then (0, 0, a.2) else (a.1, 6, 0))
set_option linter.unusedSimpArgs false in
open A in
theorem mkR_ok (k : Nat) : COk Tryz.prog 44 (mkR k) := by
  intro args p v hc hp w A hA
  unfold mkR at hc
  split at hc
  · rename_i x y
    simp only [Option.some.injEq, Prod.mk.injEq] at hc
    obtain ⟨rfl, rfl⟩ := hc
    rcases hf : day_RightStamp.f k x y with _ | r
    · rw [hf] at hp; cases hp
    obtain rfl : A = [.agg #[.int .i64 x, .int .i64 y]] := by simpa [rl_cons, rl_nil, rv_int, rv_bool, rv_str, rv_agg, rv_fn] using hA
    exact gives_of_calls (fn := Tryz.f44) Tryz.func44 (by kernel_rfl) (by kernel_rfl) (day_RightStamp.calls _ _ _ _ w hf) (fun _ => by simp [gd_some, rl_cons, rl_nil, rv_int, rv_bool, rv_str, rv_agg, rv_tup]) (fun _ h => h)
  · cases hc
set_option linter.unusedSimpArgs false in
open A in
theorem mkO_ok (k : Nat) : COk Tryz.prog 30 (mkO k) := by
  intro args p v hc hp w A hA
  unfold mkO at hc
  split at hc
  · rename_i x y
    simp only [Option.some.injEq, Prod.mk.injEq] at hc
    obtain ⟨rfl, rfl⟩ := hc
    rcases hf : day_Of.f k x y with _ | ⟨r1, r2, r3, r4⟩
    · rw [hf] at hp; cases hp
    obtain rfl : A = [.agg #[.int .i64 x, .int .i64 y]] := by simpa [rl_cons, rl_nil, rv_int, rv_bool, rv_str, rv_agg, rv_fn] using hA
    exact gives_of_calls (fn := Tryz.f30) Tryz.func30 (by kernel_rfl) (by kernel_rfl) (day_Of.calls _ _ _ _ _ _ _ w hf) (fun _ => by simp [gd_some, rl_cons, rl_nil, rv_int, rv_bool, rv_str, rv_agg, rv_tup]) (fun _ h => h)
  · cases hc
set_option linter.unusedSimpArgs false in
open A in
theorem mkP_ok : COk Tryz.prog 37 (mkP) := by
  intro args p v hc hp w A hA
  unfold mkP at hc
  split at hc
  · rename_i x y
    simp only [Option.some.injEq, Prod.mk.injEq] at hc
    obtain ⟨rfl, rfl⟩ := hc
    rcases hf : day_Parts.f x y with _ | ⟨r1, r2, r3, r4⟩
    · rw [hf] at hp; cases hp
    obtain rfl : A = [.agg #[.int .i64 x, .int .i64 y]] := by simpa [rl_cons, rl_nil, rv_int, rv_bool, rv_str, rv_agg, rv_fn] using hA
    exact gives_of_calls (fn := Tryz.f37) Tryz.func37 (by kernel_rfl) (by kernel_rfl) (day_Parts.calls _ _ _ _ _ _ w hf) (fun _ => by simp [gd_some, rl_cons, rl_nil, rv_int, rv_bool, rv_str, rv_agg, rv_tup]) (fun _ h => h)
  · cases hc
set_option linter.unusedSimpArgs false in
open A in
theorem mkA_ok : COk Tryz.prog 56 (mkA) := by
  intro args p v hc hp w A hA
  unfold mkA at hc
  split at hc
  · rename_i x y
    simp only [Option.some.injEq, Prod.mk.injEq] at hc
    obtain ⟨rfl, rfl⟩ := hc
    rcases hf : num_Add.f x y with _ | ⟨r1, r2⟩
    · rw [hf] at hp; cases hp
    obtain rfl : A = [.int .i64 x, .int .i64 y] := by simpa [rl_cons, rl_nil, rv_int, rv_bool, rv_str, rv_agg, rv_fn] using hA
    exact gives_of_calls (fn := Tryz.f56) Tryz.func56 (by kernel_rfl) (by kernel_rfl) (num_Add.calls _ _ _ _ w hf) (fun _ => by simp [gd_some, rl_cons, rl_nil, rv_int, rv_bool, rv_str, rv_agg, rv_tup]) (fun _ h => h.below)
  · cases hc
open A in
def utcA : AV := (.agg [.str ⟨#[85, 84, 67]⟩, .int .i64 0, .int .i64 0, .bool false, .str ⟨#[85, 84, 67]⟩, .nilsl, .bool false, .int .i64 0, .int .i64 0, .int .i64 0, .int .i64 0, .int .i64 0, .int .i64 0, .int .i64 0, .int .u8 0, .int .i64 0, .str ⟨#[]⟩, .int .i64 0, .int .i64 0, .int .i64 0, .int .i64 0, .int .i64 0, .int .u8 0, .int .i64 0, .str ⟨#[]⟩])
open A in
def mkV (i u : Int) : AV := .agg [.int .i64 6, .bool false, .int .i64 0, .int .i64 0, .str ⟨#[]⟩, .int .i64 0, .int .i64 0, .int .i64 i, .int .i64 u, .int .i64 0, .int .i64 0, .int .i64 0, .int .i64 0]
open A in
def valOf : AV → Option (Int × Int)
  | .agg [x0, x1, x2, x3, x4, x5, x6, .int .i64 i, .int .i64 u, y0, y1, y2, y3] => if AV.eqb.eql 4 [x0, x1, x2, x3, x4, x5, x6, y0, y1, y2, y3] [.int .i64 6, .bool false, .int .i64 0, .int .i64 0, .str ⟨#[]⟩, .int .i64 0, .int .i64 0, .int .i64 0, .int .i64 0, .int .i64 0, .int .i64 0] = true then some (i, u) else none
  | _ => none
open A in
def fld (s : ByteArray) : Option Nat := if s.data.toList = [121, 101, 97, 114] then some 0 else if s.data.toList = [109, 111, 110, 116, 104] then some 1 else if s.data.toList = [100, 97, 121] then some 2 else if s.data.toList = [104, 111, 117, 114] then some 3 else if s.data.toList = [109, 105, 110, 117, 116, 101] then some 4 else if s.data.toList = [109, 105, 99, 114, 111, 115, 101, 99, 111, 110, 100, 115] then some 5 else if s.data.toList = [113, 117, 97, 114, 116, 101, 114] then some 6 else if s.data.toList = [101, 112, 111, 99, 104] then some 7 else none
open A in
noncomputable def exCon (k : Nat) : Con
  | [t, .str s, v] =>
    match valOf v with
    | some (i, u) =>
      match fld s with
      | some 7 => some ((AV.eqb 4 t utcA && (decide (day_RightStamp.f k i u = some true) && (decide (i = 0) && (mkEp u).isSome))), .tup [.agg [.int .i64 (gd (mkEp u)).1, .int .i64 (gd (mkEp u)).2.1], .int .i64 (gd (mkEp u)).2.2])
      | some j => some ((AV.eqb 4 t utcA && (decide (day_RightStamp.f k i u = some true) && (decide (i = 0) && (mkNum k j i u).isSome))), .tup [.agg [.int .i64 (gd (mkNum k j i u)), .int .i64 0], .int .i64 0])
      | none => none
    | none => none
  | _ => none
open A in
noncomputable def nmCon (k : Nat) : Con
  | [.str s, .agg [.int .i64 i, .int .i64 u]] =>
    match fld s with
    | some 7 => none
    | some j => some ((decide (day_RightStamp.f k i u = some true) && (decide (i = 0) && (mkNum k j i u).isSome)), .int .i64 (gd (mkNum k j i u)))
    | none => none
  | _ => none
open A in
noncomputable def rrCon (k : Nat) : Con
  | [.agg [.int .i64 x, .int .i64 y]] => some ((computusref15_RightStamp.f k x y).isSome, .bool (gd (computusref15_RightStamp.f k x y)))
  | _ => none
open A in
noncomputable def maCon (k : Nat) : Con
  | [.int .i64 x, .int .i64 y, .int .i64 z] => some ((computusref15_Make.f k x y z).isSome, .tup [.agg [.int .i64 (gd (computusref15_Make.f k x y z)).1, .int .i64 (gd (computusref15_Make.f k x y z)).2.1], .int .i64 (gd (computusref15_Make.f k x y z)).2.2])
  | _ => none
open A in
noncomputable def stCon (k : Nat) : Con
  | [.agg [.int .i64 x, .int .i64 y], .int .i64 z] => some ((computusref15_Stamp.f k x y z).isSome, .tup [.agg [.int .i64 (gd (computusref15_Stamp.f k x y z)).1, .int .i64 (gd (computusref15_Stamp.f k x y z)).2.1], .int .i64 (gd (computusref15_Stamp.f k x y z)).2.2])
  | _ => none
open A in
noncomputable def drCon : Con
  | [.agg [.int .i64 x, .int .i64 y]] => some ((dec_Right.f x y).isSome, .bool (gd (dec_Right.f x y)))
  | _ => none
open A in
def knCon : Con
  | [] => some (true, .bool true)
  | _ => none
open A in
def utcCon : Con
  | [] => some (true, utcA)
  | _ => none
set_option linter.unusedSimpArgs false in
open A in
theorem rrCon_ok (k : Nat) : COk Tryz.prog 13 (rrCon k) := by
  intro args p v hc hp w A hA
  unfold rrCon at hc
  split at hc
  · rename_i x y
    simp only [Option.some.injEq, Prod.mk.injEq] at hc
    obtain ⟨rfl, rfl⟩ := hc
    rcases hf : computusref15_RightStamp.f k x y with _ | r
    · rw [hf] at hp; cases hp
    obtain rfl : A = [.agg #[.int .i64 x, .int .i64 y]] := by simpa [rl_cons, rl_nil, rv_int, rv_bool, rv_str, rv_agg, rv_fn] using hA
    exact gives_of_calls (fn := Tryz.f13) Tryz.func13 (by kernel_rfl) (by kernel_rfl) (computusref15_RightStamp.calls _ _ _ _ w hf) (fun _ => by simp [gd_some, rl_cons, rl_nil, rv_int, rv_bool, rv_str, rv_agg, rv_tup]) (fun _ h => h)
  · cases hc
set_option linter.unusedSimpArgs false in
open A in
theorem maCon_ok (k : Nat) : COk Tryz.prog 15 (maCon k) := by
  intro args p v hc hp w A hA
  unfold maCon at hc
  split at hc
  · rename_i x y z
    simp only [Option.some.injEq, Prod.mk.injEq] at hc
    obtain ⟨rfl, rfl⟩ := hc
    rcases hf : computusref15_Make.f k x y z with _ | ⟨r1, r2, r3⟩
    · rw [hf] at hp; cases hp
    obtain rfl : A = [.int .i64 x, .int .i64 y, .int .i64 z] := by simpa [rl_cons, rl_nil, rv_int, rv_bool, rv_str, rv_agg, rv_fn] using hA
    exact gives_of_calls (fn := Tryz.f15) Tryz.func15 (by kernel_rfl) (by kernel_rfl) (computusref15_Make.calls _ _ _ _ _ _ _ w hf) (fun _ => by simp [gd_some, rl_cons, rl_nil, rv_int, rv_bool, rv_str, rv_agg, rv_tup]) (fun _ h => h)
  · cases hc
set_option linter.unusedSimpArgs false in
open A in
theorem stCon_ok (k : Nat) : COk Tryz.prog 16 (stCon k) := by
  intro args p v hc hp w A hA
  unfold stCon at hc
  split at hc
  · rename_i x y z
    simp only [Option.some.injEq, Prod.mk.injEq] at hc
    obtain ⟨rfl, rfl⟩ := hc
    rcases hf : computusref15_Stamp.f k x y z with _ | ⟨r1, r2, r3⟩
    · rw [hf] at hp; cases hp
    obtain rfl : A = [.agg #[.int .i64 x, .int .i64 y], .int .i64 z] := by simpa [rl_cons, rl_nil, rv_int, rv_bool, rv_str, rv_agg, rv_fn] using hA
    exact gives_of_calls (fn := Tryz.f16) Tryz.func16 (by kernel_rfl) (by kernel_rfl) (computusref15_Stamp.calls _ _ _ _ _ _ _ w hf) (fun _ => by simp [gd_some, rl_cons, rl_nil, rv_int, rv_bool, rv_str, rv_agg, rv_tup]) (fun _ h => h)
  · cases hc
set_option linter.unusedSimpArgs false in
open A in
theorem drCon_ok : COk Tryz.prog 19 (drCon) := by
  intro args p v hc hp w A hA
  unfold drCon at hc
  split at hc
  · rename_i x y
    simp only [Option.some.injEq, Prod.mk.injEq] at hc
    obtain ⟨rfl, rfl⟩ := hc
    rcases hf : dec_Right.f x y with _ | r
    · rw [hf] at hp; cases hp
    obtain rfl : A = [.agg #[.int .i64 x, .int .i64 y]] := by simpa [rl_cons, rl_nil, rv_int, rv_bool, rv_str, rv_agg, rv_fn] using hA
    exact gives_of_calls (fn := Tryz.f19) Tryz.func19 (by kernel_rfl) (by kernel_rfl) (dec_Right.calls _ _ _ w hf) (fun _ => by simp [gd_some, rl_cons, rl_nil, rv_int, rv_bool, rv_str, rv_agg, rv_tup]) (fun _ h => h)
  · cases hc
open A in
theorem knCon_ok : COk Tryz.prog 10 knCon := by
  intro args p v hc hp w A hA
  unfold knCon at hc
  split at hc
  · simp only [Option.some.injEq, Prod.mk.injEq] at hc
    obtain ⟨rfl, rfl⟩ := hc
    obtain rfl : A = [] := by simpa [rl_nil] using hA
    exact gives_of_calls (fn := Tryz.f10) Tryz.func10 (by kernel_rfl) (by kernel_rfl) (A.known_calls w) (fun _ => by simp [rv_bool]) (fun _ h => h)
  · cases hc
set_option maxRecDepth 100000 in
open A in
theorem utc_run : runC Tryz.prog 60 (tab []) 18 [] = some (true, utcA) := by kernel_rfl
open A in
theorem utcCon_ok : COk Tryz.prog 18 utcCon := by
  intro args p v hc hp w A hA
  unfold utcCon at hc
  split at hc
  · simp only [Option.some.injEq, Prod.mk.injEq] at hc
    obtain ⟨rfl, rfl⟩ := hc
    exact runC_ok mixed 60 tab_nil 18 [] true utcA utc_run rfl w A hA
  · cases hc
set_option linter.unusedSimpArgs false in
set_option maxHeartbeats 8000000 in
set_option maxRecDepth 100000 in
open A in
theorem valOf_ok {v : AV} {i u : Int} (h : valOf v = some (i, u)) : v = mkV i u := by
  unfold valOf at h
  split at h
  · split at h
    · rename_i he
      have := eql_ok 4 _ _ he
      simp only [List.cons.injEq, and_true] at this
      simp only [Option.some.injEq, Prod.mk.injEq] at h
      obtain ⟨rfl, rfl, rfl, rfl, rfl, rfl, rfl, rfl, rfl, rfl, rfl⟩ := this
      obtain ⟨rfl, rfl⟩ := h
      rfl
    · cases h
  · cases h
theorem bytes_eq {s : ByteArray} {l : List UInt8} (h : s.data.toList = l) : s = ⟨l.toArray⟩ := by
  obtain ⟨⟨a⟩⟩ := s
  simp at h; rw [h]
set_option linter.unusedSimpArgs false in
set_option linter.unusedSimpArgs false in
set_option linter.unusedSimpArgs false in
set_option linter.unusedSimpArgs false in
set_option linter.unusedSimpArgs false in
set_option linter.unusedSimpArgs false in
theorem fld_ok {s : ByteArray} {j : Nat} (h : fld s = some j) : (j = 0 ∧ s = ⟨#[121, 101, 97, 114]⟩) ∨ (j = 1 ∧ s = ⟨#[109, 111, 110, 116, 104]⟩) ∨ (j = 2 ∧ s = ⟨#[100, 97, 121]⟩) ∨ (j = 3 ∧ s = ⟨#[104, 111, 117, 114]⟩) ∨ (j = 4 ∧ s = ⟨#[109, 105, 110, 117, 116, 101]⟩) ∨ (j = 5 ∧ s = ⟨#[109, 105, 99, 114, 111, 115, 101, 99, 111, 110, 100, 115]⟩) ∨ (j = 6 ∧ s = ⟨#[113, 117, 97, 114, 116, 101, 114]⟩) ∨ (j = 7 ∧ s = ⟨#[101, 112, 111, 99, 104]⟩) := by
  unfold fld at h
  (repeat' split at h) <;> simp only [Option.some.injEq, reduceCtorEq] at h <;> subst h <;> rename_i e <;> have := bytes_eq e <;> simp [this]
set_option maxRecDepth 100000 in
open A in
theorem vcX0 (k : Nat) (i u : Int) (K : AV → Prop) : afv PA Tryz.prog (tab [(44, mkR k), (30, mkO k), (37, mkP), (56, mkA)]) noLoops 40 17 [utcA, .str ⟨#[121, 101, 97, 114]⟩, mkV i u] K = (brc (Option.isSome (day_RightStamp.f k i u)) (∀ (m0 : Bool), m0 = gd (day_RightStamp.f k i u) → brc m0 (brc (!(true && (true && (true && (true && (true && (true && (i == i && (u == u && true) && true)))))))) (K (AV.tup [AV.agg [AV.int IntKind.i64 0, AV.int IntKind.i64 0], AV.int IntKind.i64 1])) (brc (i != 0) (K (AV.tup [AV.agg [AV.int IntKind.i64 0, AV.int IntKind.i64 0], AV.int IntKind.i64 10])) (brc (Option.isSome (day_Of.f k i u)) (∀ (m1 : Int), m1 = Prod.fst (gd (day_Of.f k i u)) → ∀ (m2 : Int), m2 = Prod.fst (Prod.snd (gd (day_Of.f k i u))) → ∀ (m3 : Int), m3 = Prod.fst (Prod.snd (Prod.snd (gd (day_Of.f k i u)))) → ∀ (m4 : Int), m4 = Prod.snd (Prod.snd (Prod.snd (gd (day_Of.f k i u)))) → brc (Option.isSome (day_Parts.f m1 m2)) (∀ (m5 : Int), m5 = Prod.fst (gd (day_Parts.f m1 m2)) → ∀ (m6 : Int), m6 = Prod.fst (Prod.snd (gd (day_Parts.f m1 m2))) → ∀ (m7 : Int), m7 = Prod.fst (Prod.snd (Prod.snd (gd (day_Parts.f m1 m2)))) → ∀ (m8 : Int), m8 = Prod.snd (Prod.snd (Prod.snd (gd (day_Parts.f m1 m2)))) → brc (decide (m5 < 1)) (K (AV.tup [AV.agg [AV.int IntKind.i64 (IntKind.wrap IntKind.i64 (m5 - 1)), AV.int IntKind.i64 0], AV.int IntKind.i64 0])) (K (AV.tup [AV.agg [AV.int IntKind.i64 m5, AV.int IntKind.i64 0], AV.int IntKind.i64 0]))) False) False))) (K (AV.tup [AV.agg [AV.int IntKind.i64 0, AV.int IntKind.i64 0], AV.int IntKind.i64 1]))) False) := by kernel_rfl
set_option maxRecDepth 100000 in
open A in
theorem vcX1 (k : Nat) (i u : Int) (K : AV → Prop) : afv PA Tryz.prog (tab [(44, mkR k), (30, mkO k), (37, mkP), (56, mkA)]) noLoops 40 17 [utcA, .str ⟨#[109, 111, 110, 116, 104]⟩, mkV i u] K = (brc (Option.isSome (day_RightStamp.f k i u)) (∀ (m0 : Bool), m0 = gd (day_RightStamp.f k i u) → brc m0 (brc (!(true && (true && (true && (true && (true && (true && (i == i && (u == u && true) && true)))))))) (K (AV.tup [AV.agg [AV.int IntKind.i64 0, AV.int IntKind.i64 0], AV.int IntKind.i64 1])) (brc (i != 0) (K (AV.tup [AV.agg [AV.int IntKind.i64 0, AV.int IntKind.i64 0], AV.int IntKind.i64 10])) (brc (Option.isSome (day_Of.f k i u)) (∀ (m1 : Int), m1 = Prod.fst (gd (day_Of.f k i u)) → ∀ (m2 : Int), m2 = Prod.fst (Prod.snd (gd (day_Of.f k i u))) → ∀ (m3 : Int), m3 = Prod.fst (Prod.snd (Prod.snd (gd (day_Of.f k i u)))) → ∀ (m4 : Int), m4 = Prod.snd (Prod.snd (Prod.snd (gd (day_Of.f k i u)))) → brc (Option.isSome (day_Parts.f m1 m2)) (∀ (m5 : Int), m5 = Prod.fst (gd (day_Parts.f m1 m2)) → ∀ (m6 : Int), m6 = Prod.fst (Prod.snd (gd (day_Parts.f m1 m2))) → ∀ (m7 : Int), m7 = Prod.fst (Prod.snd (Prod.snd (gd (day_Parts.f m1 m2)))) → ∀ (m8 : Int), m8 = Prod.snd (Prod.snd (Prod.snd (gd (day_Parts.f m1 m2)))) → K (AV.tup [AV.agg [AV.int IntKind.i64 m6, AV.int IntKind.i64 0], AV.int IntKind.i64 0])) False) False))) (K (AV.tup [AV.agg [AV.int IntKind.i64 0, AV.int IntKind.i64 0], AV.int IntKind.i64 1]))) False) := by kernel_rfl
set_option maxRecDepth 100000 in
open A in
theorem vcX2 (k : Nat) (i u : Int) (K : AV → Prop) : afv PA Tryz.prog (tab [(44, mkR k), (30, mkO k), (37, mkP), (56, mkA)]) noLoops 40 17 [utcA, .str ⟨#[100, 97, 121]⟩, mkV i u] K = (brc (Option.isSome (day_RightStamp.f k i u)) (∀ (m0 : Bool), m0 = gd (day_RightStamp.f k i u) → brc m0 (brc (!(true && (true && (true && (true && (true && (true && (i == i && (u == u && true) && true)))))))) (K (AV.tup [AV.agg [AV.int IntKind.i64 0, AV.int IntKind.i64 0], AV.int IntKind.i64 1])) (brc (i != 0) (K (AV.tup [AV.agg [AV.int IntKind.i64 0, AV.int IntKind.i64 0], AV.int IntKind.i64 10])) (brc (Option.isSome (day_Of.f k i u)) (∀ (m1 : Int), m1 = Prod.fst (gd (day_Of.f k i u)) → ∀ (m2 : Int), m2 = Prod.fst (Prod.snd (gd (day_Of.f k i u))) → ∀ (m3 : Int), m3 = Prod.fst (Prod.snd (Prod.snd (gd (day_Of.f k i u)))) → ∀ (m4 : Int), m4 = Prod.snd (Prod.snd (Prod.snd (gd (day_Of.f k i u)))) → brc (Option.isSome (day_Parts.f m1 m2)) (∀ (m5 : Int), m5 = Prod.fst (gd (day_Parts.f m1 m2)) → ∀ (m6 : Int), m6 = Prod.fst (Prod.snd (gd (day_Parts.f m1 m2))) → ∀ (m7 : Int), m7 = Prod.fst (Prod.snd (Prod.snd (gd (day_Parts.f m1 m2)))) → ∀ (m8 : Int), m8 = Prod.snd (Prod.snd (Prod.snd (gd (day_Parts.f m1 m2)))) → K (AV.tup [AV.agg [AV.int IntKind.i64 m7, AV.int IntKind.i64 0], AV.int IntKind.i64 0])) False) False))) (K (AV.tup [AV.agg [AV.int IntKind.i64 0, AV.int IntKind.i64 0], AV.int IntKind.i64 1]))) False) := by kernel_rfl
set_option maxRecDepth 100000 in
open A in
theorem vcX3 (k : Nat) (i u : Int) (K : AV → Prop) : afv PA Tryz.prog (tab [(44, mkR k), (30, mkO k), (37, mkP), (56, mkA)]) noLoops 40 17 [utcA, .str ⟨#[104, 111, 117, 114]⟩, mkV i u] K = (brc (Option.isSome (day_RightStamp.f k i u)) (∀ (m0 : Bool), m0 = gd (day_RightStamp.f k i u) → brc m0 (brc (!(true && (true && (true && (true && (true && (true && (i == i && (u == u && true) && true)))))))) (K (AV.tup [AV.agg [AV.int IntKind.i64 0, AV.int IntKind.i64 0], AV.int IntKind.i64 1])) (brc (i != 0) (K (AV.tup [AV.agg [AV.int IntKind.i64 0, AV.int IntKind.i64 0], AV.int IntKind.i64 10])) (brc (Option.isSome (day_Of.f k i u)) (∀ (m1 : Int), m1 = Prod.fst (gd (day_Of.f k i u)) → ∀ (m2 : Int), m2 = Prod.fst (Prod.snd (gd (day_Of.f k i u))) → ∀ (m3 : Int), m3 = Prod.fst (Prod.snd (Prod.snd (gd (day_Of.f k i u)))) → ∀ (m4 : Int), m4 = Prod.snd (Prod.snd (Prod.snd (gd (day_Of.f k i u)))) → K (AV.tup [AV.agg [AV.int IntKind.i64 (IntKind.wrap IntKind.i64 (Int.tdiv m3 3600000000)), AV.int IntKind.i64 0], AV.int IntKind.i64 0])) False))) (K (AV.tup [AV.agg [AV.int IntKind.i64 0, AV.int IntKind.i64 0], AV.int IntKind.i64 1]))) False) := by kernel_rfl
set_option maxRecDepth 100000 in
open A in
theorem vcX4 (k : Nat) (i u : Int) (K : AV → Prop) : afv PA Tryz.prog (tab [(44, mkR k), (30, mkO k), (37, mkP), (56, mkA)]) noLoops 40 17 [utcA, .str ⟨#[109, 105, 110, 117, 116, 101]⟩, mkV i u] K = (brc (Option.isSome (day_RightStamp.f k i u)) (∀ (m0 : Bool), m0 = gd (day_RightStamp.f k i u) → brc m0 (brc (!(true && (true && (true && (true && (true && (true && (i == i && (u == u && true) && true)))))))) (K (AV.tup [AV.agg [AV.int IntKind.i64 0, AV.int IntKind.i64 0], AV.int IntKind.i64 1])) (brc (i != 0) (K (AV.tup [AV.agg [AV.int IntKind.i64 0, AV.int IntKind.i64 0], AV.int IntKind.i64 10])) (brc (Option.isSome (day_Of.f k i u)) (∀ (m1 : Int), m1 = Prod.fst (gd (day_Of.f k i u)) → ∀ (m2 : Int), m2 = Prod.fst (Prod.snd (gd (day_Of.f k i u))) → ∀ (m3 : Int), m3 = Prod.fst (Prod.snd (Prod.snd (gd (day_Of.f k i u)))) → ∀ (m4 : Int), m4 = Prod.snd (Prod.snd (Prod.snd (gd (day_Of.f k i u)))) → K (AV.tup [AV.agg [AV.int IntKind.i64 (IntKind.wrap IntKind.i64 (Int.tdiv (Int.tmod m3 3600000000) 60000000)), AV.int IntKind.i64 0], AV.int IntKind.i64 0])) False))) (K (AV.tup [AV.agg [AV.int IntKind.i64 0, AV.int IntKind.i64 0], AV.int IntKind.i64 1]))) False) := by kernel_rfl
set_option maxRecDepth 100000 in
open A in
theorem vcX5 (k : Nat) (i u : Int) (K : AV → Prop) : afv PA Tryz.prog (tab [(44, mkR k), (30, mkO k), (37, mkP), (56, mkA)]) noLoops 40 17 [utcA, .str ⟨#[109, 105, 99, 114, 111, 115, 101, 99, 111, 110, 100, 115]⟩, mkV i u] K = (brc (Option.isSome (day_RightStamp.f k i u)) (∀ (m0 : Bool), m0 = gd (day_RightStamp.f k i u) → brc m0 (brc (!(true && (true && (true && (true && (true && (true && (i == i && (u == u && true) && true)))))))) (K (AV.tup [AV.agg [AV.int IntKind.i64 0, AV.int IntKind.i64 0], AV.int IntKind.i64 1])) (brc (i != 0) (K (AV.tup [AV.agg [AV.int IntKind.i64 0, AV.int IntKind.i64 0], AV.int IntKind.i64 10])) (brc (Option.isSome (day_Of.f k i u)) (∀ (m1 : Int), m1 = Prod.fst (gd (day_Of.f k i u)) → ∀ (m2 : Int), m2 = Prod.fst (Prod.snd (gd (day_Of.f k i u))) → ∀ (m3 : Int), m3 = Prod.fst (Prod.snd (Prod.snd (gd (day_Of.f k i u)))) → ∀ (m4 : Int), m4 = Prod.snd (Prod.snd (Prod.snd (gd (day_Of.f k i u)))) → K (AV.tup [AV.agg [AV.int IntKind.i64 (Int.tmod m3 60000000), AV.int IntKind.i64 0], AV.int IntKind.i64 0])) False))) (K (AV.tup [AV.agg [AV.int IntKind.i64 0, AV.int IntKind.i64 0], AV.int IntKind.i64 1]))) False) := by kernel_rfl
set_option maxRecDepth 100000 in
open A in
theorem vcX6 (k : Nat) (i u : Int) (K : AV → Prop) : afv PA Tryz.prog (tab [(44, mkR k), (30, mkO k), (37, mkP), (56, mkA)]) noLoops 40 17 [utcA, .str ⟨#[113, 117, 97, 114, 116, 101, 114]⟩, mkV i u] K = (brc (Option.isSome (day_RightStamp.f k i u)) (∀ (m0 : Bool), m0 = gd (day_RightStamp.f k i u) → brc m0 (brc (!(true && (true && (true && (true && (true && (true && (i == i && (u == u && true) && true)))))))) (K (AV.tup [AV.agg [AV.int IntKind.i64 0, AV.int IntKind.i64 0], AV.int IntKind.i64 1])) (brc (i != 0) (K (AV.tup [AV.agg [AV.int IntKind.i64 0, AV.int IntKind.i64 0], AV.int IntKind.i64 10])) (brc (Option.isSome (day_Of.f k i u)) (∀ (m1 : Int), m1 = Prod.fst (gd (day_Of.f k i u)) → ∀ (m2 : Int), m2 = Prod.fst (Prod.snd (gd (day_Of.f k i u))) → ∀ (m3 : Int), m3 = Prod.fst (Prod.snd (Prod.snd (gd (day_Of.f k i u)))) → ∀ (m4 : Int), m4 = Prod.snd (Prod.snd (Prod.snd (gd (day_Of.f k i u)))) → brc (Option.isSome (day_Parts.f m1 m2)) (∀ (m5 : Int), m5 = Prod.fst (gd (day_Parts.f m1 m2)) → ∀ (m6 : Int), m6 = Prod.fst (Prod.snd (gd (day_Parts.f m1 m2))) → ∀ (m7 : Int), m7 = Prod.fst (Prod.snd (Prod.snd (gd (day_Parts.f m1 m2)))) → ∀ (m8 : Int), m8 = Prod.snd (Prod.snd (Prod.snd (gd (day_Parts.f m1 m2)))) → K (AV.tup [AV.agg [AV.int IntKind.i64 (IntKind.wrap IntKind.i64 (Int.tdiv (IntKind.wrap IntKind.i64 (m6 + 2)) 3)), AV.int IntKind.i64 0], AV.int IntKind.i64 0])) False) False))) (K (AV.tup [AV.agg [AV.int IntKind.i64 0, AV.int IntKind.i64 0], AV.int IntKind.i64 1]))) False) := by kernel_rfl
set_option maxRecDepth 100000 in
open A in
theorem vcX7 (k : Nat) (i u : Int) (K : AV → Prop) : afv PA Tryz.prog (tab [(44, mkR k), (30, mkO k), (37, mkP), (56, mkA)]) noLoops 40 17 [utcA, .str ⟨#[101, 112, 111, 99, 104]⟩, mkV i u] K = (brc (Option.isSome (day_RightStamp.f k i u)) (∀ (m0 : Bool), m0 = gd (day_RightStamp.f k i u) → brc m0 (brc (!(true && (true && (true && (true && (true && (true && (i == i && (u == u && true) && true)))))))) (K (AV.tup [AV.agg [AV.int IntKind.i64 0, AV.int IntKind.i64 0], AV.int IntKind.i64 1])) (brc (i != 0) (K (AV.tup [AV.agg [AV.int IntKind.i64 0, AV.int IntKind.i64 0], AV.int IntKind.i64 10])) (brc (Option.isSome (num_Add.f u 946684800000000)) (∀ (m1 : Int), m1 = Prod.fst (gd (num_Add.f u 946684800000000)) → ∀ (m2 : Int), m2 = Prod.snd (gd (num_Add.f u 946684800000000)) → brc (m2 != 0) (K (AV.tup [AV.agg [AV.int IntKind.i64 0, AV.int IntKind.i64 0], AV.int IntKind.i64 m2])) (K (AV.tup [AV.agg [AV.int IntKind.i64 m1, AV.int IntKind.i64 6], AV.int IntKind.i64 0]))) False))) (K (AV.tup [AV.agg [AV.int IntKind.i64 0, AV.int IntKind.i64 0], AV.int IntKind.i64 1]))) False) := by kernel_rfl
set_option maxRecDepth 100000 in
open A in
theorem vcN0 (k : Nat) (i u : Int) (K : AV → Prop) : afv PA Tryz.prog (tab [(17, exCon k), (18, utcCon)]) noLoops 20 14 [.str ⟨#[121, 101, 97, 114]⟩, .agg [.int .i64 i, .int .i64 u]] K = (∀ (m0 : Int), m0 = 0 → ∀ (m1 : Int), m1 = 0 → ∀ (m2 : Bool), m2 = false → ∀ (m3 : Bool), m3 = false → ∀ (m4 : Int), m4 = 0 → ∀ (m5 : Int), m5 = 0 → ∀ (m6 : Int), m6 = 0 → ∀ (m7 : Int), m7 = 0 → ∀ (m8 : Int), m8 = 0 → ∀ (m9 : Int), m9 = 0 → ∀ (m10 : Int), m10 = 0 → ∀ (m11 : Int), m11 = 0 → ∀ (m12 : Int), m12 = 0 → ∀ (m13 : Int), m13 = 0 → ∀ (m14 : Int), m14 = 0 → ∀ (m15 : Int), m15 = 0 → ∀ (m16 : Int), m16 = 0 → ∀ (m17 : Int), m17 = 0 → ∀ (m18 : Int), m18 = 0 → ∀ (m19 : Int), m19 = 0 → brc (AV.eqb 4 (AV.agg (List.reverse [AV.str { data := #[] }, AV.int IntKind.i64 m19, AV.int IntKind.u8 m18, AV.int IntKind.i64 m17, AV.int IntKind.i64 m16, AV.int IntKind.i64 m15, AV.int IntKind.i64 m14, AV.int IntKind.i64 m13, AV.str { data := #[] }, AV.int IntKind.i64 m12, AV.int IntKind.u8 m11, AV.int IntKind.i64 m10, AV.int IntKind.i64 m9, AV.int IntKind.i64 m8, AV.int IntKind.i64 m7, AV.int IntKind.i64 m6, AV.int IntKind.i64 m5, AV.int IntKind.i64 m4, AV.bool m3, AV.nilsl, AV.str { data := #[85, 84, 67] }, AV.bool m2, AV.int IntKind.i64 m1, AV.int IntKind.i64 m0, AV.str { data := #[85, 84, 67] }])) utcA && (decide (day_RightStamp.f k i u = some true) && (decide (i = 0) && Option.isSome (mkNum k 0 i u)))) (∀ (m20 : Int), m20 = gd (mkNum k 0 i u) → ∀ (m21 : Int), m21 = 0 → ∀ (m22 : Int), m22 = 0 → K (AV.int IntKind.i64 m20)) False) := by kernel_rfl
set_option maxRecDepth 100000 in
open A in
theorem vcN1 (k : Nat) (i u : Int) (K : AV → Prop) : afv PA Tryz.prog (tab [(17, exCon k), (18, utcCon)]) noLoops 20 14 [.str ⟨#[109, 111, 110, 116, 104]⟩, .agg [.int .i64 i, .int .i64 u]] K = (∀ (m0 : Int), m0 = 0 → ∀ (m1 : Int), m1 = 0 → ∀ (m2 : Bool), m2 = false → ∀ (m3 : Bool), m3 = false → ∀ (m4 : Int), m4 = 0 → ∀ (m5 : Int), m5 = 0 → ∀ (m6 : Int), m6 = 0 → ∀ (m7 : Int), m7 = 0 → ∀ (m8 : Int), m8 = 0 → ∀ (m9 : Int), m9 = 0 → ∀ (m10 : Int), m10 = 0 → ∀ (m11 : Int), m11 = 0 → ∀ (m12 : Int), m12 = 0 → ∀ (m13 : Int), m13 = 0 → ∀ (m14 : Int), m14 = 0 → ∀ (m15 : Int), m15 = 0 → ∀ (m16 : Int), m16 = 0 → ∀ (m17 : Int), m17 = 0 → ∀ (m18 : Int), m18 = 0 → ∀ (m19 : Int), m19 = 0 → brc (AV.eqb 4 (AV.agg (List.reverse [AV.str { data := #[] }, AV.int IntKind.i64 m19, AV.int IntKind.u8 m18, AV.int IntKind.i64 m17, AV.int IntKind.i64 m16, AV.int IntKind.i64 m15, AV.int IntKind.i64 m14, AV.int IntKind.i64 m13, AV.str { data := #[] }, AV.int IntKind.i64 m12, AV.int IntKind.u8 m11, AV.int IntKind.i64 m10, AV.int IntKind.i64 m9, AV.int IntKind.i64 m8, AV.int IntKind.i64 m7, AV.int IntKind.i64 m6, AV.int IntKind.i64 m5, AV.int IntKind.i64 m4, AV.bool m3, AV.nilsl, AV.str { data := #[85, 84, 67] }, AV.bool m2, AV.int IntKind.i64 m1, AV.int IntKind.i64 m0, AV.str { data := #[85, 84, 67] }])) utcA && (decide (day_RightStamp.f k i u = some true) && (decide (i = 0) && Option.isSome (mkNum k 1 i u)))) (∀ (m20 : Int), m20 = gd (mkNum k 1 i u) → ∀ (m21 : Int), m21 = 0 → ∀ (m22 : Int), m22 = 0 → K (AV.int IntKind.i64 m20)) False) := by kernel_rfl
set_option maxRecDepth 100000 in
open A in
theorem vcN2 (k : Nat) (i u : Int) (K : AV → Prop) : afv PA Tryz.prog (tab [(17, exCon k), (18, utcCon)]) noLoops 20 14 [.str ⟨#[100, 97, 121]⟩, .agg [.int .i64 i, .int .i64 u]] K = (∀ (m0 : Int), m0 = 0 → ∀ (m1 : Int), m1 = 0 → ∀ (m2 : Bool), m2 = false → ∀ (m3 : Bool), m3 = false → ∀ (m4 : Int), m4 = 0 → ∀ (m5 : Int), m5 = 0 → ∀ (m6 : Int), m6 = 0 → ∀ (m7 : Int), m7 = 0 → ∀ (m8 : Int), m8 = 0 → ∀ (m9 : Int), m9 = 0 → ∀ (m10 : Int), m10 = 0 → ∀ (m11 : Int), m11 = 0 → ∀ (m12 : Int), m12 = 0 → ∀ (m13 : Int), m13 = 0 → ∀ (m14 : Int), m14 = 0 → ∀ (m15 : Int), m15 = 0 → ∀ (m16 : Int), m16 = 0 → ∀ (m17 : Int), m17 = 0 → ∀ (m18 : Int), m18 = 0 → ∀ (m19 : Int), m19 = 0 → brc (AV.eqb 4 (AV.agg (List.reverse [AV.str { data := #[] }, AV.int IntKind.i64 m19, AV.int IntKind.u8 m18, AV.int IntKind.i64 m17, AV.int IntKind.i64 m16, AV.int IntKind.i64 m15, AV.int IntKind.i64 m14, AV.int IntKind.i64 m13, AV.str { data := #[] }, AV.int IntKind.i64 m12, AV.int IntKind.u8 m11, AV.int IntKind.i64 m10, AV.int IntKind.i64 m9, AV.int IntKind.i64 m8, AV.int IntKind.i64 m7, AV.int IntKind.i64 m6, AV.int IntKind.i64 m5, AV.int IntKind.i64 m4, AV.bool m3, AV.nilsl, AV.str { data := #[85, 84, 67] }, AV.bool m2, AV.int IntKind.i64 m1, AV.int IntKind.i64 m0, AV.str { data := #[85, 84, 67] }])) utcA && (decide (day_RightStamp.f k i u = some true) && (decide (i = 0) && Option.isSome (mkNum k 2 i u)))) (∀ (m20 : Int), m20 = gd (mkNum k 2 i u) → ∀ (m21 : Int), m21 = 0 → ∀ (m22 : Int), m22 = 0 → K (AV.int IntKind.i64 m20)) False) := by kernel_rfl
set_option maxRecDepth 100000 in
open A in
theorem vcN3 (k : Nat) (i u : Int) (K : AV → Prop) : afv PA Tryz.prog (tab [(17, exCon k), (18, utcCon)]) noLoops 20 14 [.str ⟨#[104, 111, 117, 114]⟩, .agg [.int .i64 i, .int .i64 u]] K = (∀ (m0 : Int), m0 = 0 → ∀ (m1 : Int), m1 = 0 → ∀ (m2 : Bool), m2 = false → ∀ (m3 : Bool), m3 = false → ∀ (m4 : Int), m4 = 0 → ∀ (m5 : Int), m5 = 0 → ∀ (m6 : Int), m6 = 0 → ∀ (m7 : Int), m7 = 0 → ∀ (m8 : Int), m8 = 0 → ∀ (m9 : Int), m9 = 0 → ∀ (m10 : Int), m10 = 0 → ∀ (m11 : Int), m11 = 0 → ∀ (m12 : Int), m12 = 0 → ∀ (m13 : Int), m13 = 0 → ∀ (m14 : Int), m14 = 0 → ∀ (m15 : Int), m15 = 0 → ∀ (m16 : Int), m16 = 0 → ∀ (m17 : Int), m17 = 0 → ∀ (m18 : Int), m18 = 0 → ∀ (m19 : Int), m19 = 0 → brc (AV.eqb 4 (AV.agg (List.reverse [AV.str { data := #[] }, AV.int IntKind.i64 m19, AV.int IntKind.u8 m18, AV.int IntKind.i64 m17, AV.int IntKind.i64 m16, AV.int IntKind.i64 m15, AV.int IntKind.i64 m14, AV.int IntKind.i64 m13, AV.str { data := #[] }, AV.int IntKind.i64 m12, AV.int IntKind.u8 m11, AV.int IntKind.i64 m10, AV.int IntKind.i64 m9, AV.int IntKind.i64 m8, AV.int IntKind.i64 m7, AV.int IntKind.i64 m6, AV.int IntKind.i64 m5, AV.int IntKind.i64 m4, AV.bool m3, AV.nilsl, AV.str { data := #[85, 84, 67] }, AV.bool m2, AV.int IntKind.i64 m1, AV.int IntKind.i64 m0, AV.str { data := #[85, 84, 67] }])) utcA && (decide (day_RightStamp.f k i u = some true) && (decide (i = 0) && Option.isSome (mkNum k 3 i u)))) (∀ (m20 : Int), m20 = gd (mkNum k 3 i u) → ∀ (m21 : Int), m21 = 0 → ∀ (m22 : Int), m22 = 0 → K (AV.int IntKind.i64 m20)) False) := by kernel_rfl
set_option maxRecDepth 100000 in
open A in
theorem vcN4 (k : Nat) (i u : Int) (K : AV → Prop) : afv PA Tryz.prog (tab [(17, exCon k), (18, utcCon)]) noLoops 20 14 [.str ⟨#[109, 105, 110, 117, 116, 101]⟩, .agg [.int .i64 i, .int .i64 u]] K = (∀ (m0 : Int), m0 = 0 → ∀ (m1 : Int), m1 = 0 → ∀ (m2 : Bool), m2 = false → ∀ (m3 : Bool), m3 = false → ∀ (m4 : Int), m4 = 0 → ∀ (m5 : Int), m5 = 0 → ∀ (m6 : Int), m6 = 0 → ∀ (m7 : Int), m7 = 0 → ∀ (m8 : Int), m8 = 0 → ∀ (m9 : Int), m9 = 0 → ∀ (m10 : Int), m10 = 0 → ∀ (m11 : Int), m11 = 0 → ∀ (m12 : Int), m12 = 0 → ∀ (m13 : Int), m13 = 0 → ∀ (m14 : Int), m14 = 0 → ∀ (m15 : Int), m15 = 0 → ∀ (m16 : Int), m16 = 0 → ∀ (m17 : Int), m17 = 0 → ∀ (m18 : Int), m18 = 0 → ∀ (m19 : Int), m19 = 0 → brc (AV.eqb 4 (AV.agg (List.reverse [AV.str { data := #[] }, AV.int IntKind.i64 m19, AV.int IntKind.u8 m18, AV.int IntKind.i64 m17, AV.int IntKind.i64 m16, AV.int IntKind.i64 m15, AV.int IntKind.i64 m14, AV.int IntKind.i64 m13, AV.str { data := #[] }, AV.int IntKind.i64 m12, AV.int IntKind.u8 m11, AV.int IntKind.i64 m10, AV.int IntKind.i64 m9, AV.int IntKind.i64 m8, AV.int IntKind.i64 m7, AV.int IntKind.i64 m6, AV.int IntKind.i64 m5, AV.int IntKind.i64 m4, AV.bool m3, AV.nilsl, AV.str { data := #[85, 84, 67] }, AV.bool m2, AV.int IntKind.i64 m1, AV.int IntKind.i64 m0, AV.str { data := #[85, 84, 67] }])) utcA && (decide (day_RightStamp.f k i u = some true) && (decide (i = 0) && Option.isSome (mkNum k 4 i u)))) (∀ (m20 : Int), m20 = gd (mkNum k 4 i u) → ∀ (m21 : Int), m21 = 0 → ∀ (m22 : Int), m22 = 0 → K (AV.int IntKind.i64 m20)) False) := by kernel_rfl
set_option maxRecDepth 100000 in
open A in
theorem vcN5 (k : Nat) (i u : Int) (K : AV → Prop) : afv PA Tryz.prog (tab [(17, exCon k), (18, utcCon)]) noLoops 20 14 [.str ⟨#[109, 105, 99, 114, 111, 115, 101, 99, 111, 110, 100, 115]⟩, .agg [.int .i64 i, .int .i64 u]] K = (∀ (m0 : Int), m0 = 0 → ∀ (m1 : Int), m1 = 0 → ∀ (m2 : Bool), m2 = false → ∀ (m3 : Bool), m3 = false → ∀ (m4 : Int), m4 = 0 → ∀ (m5 : Int), m5 = 0 → ∀ (m6 : Int), m6 = 0 → ∀ (m7 : Int), m7 = 0 → ∀ (m8 : Int), m8 = 0 → ∀ (m9 : Int), m9 = 0 → ∀ (m10 : Int), m10 = 0 → ∀ (m11 : Int), m11 = 0 → ∀ (m12 : Int), m12 = 0 → ∀ (m13 : Int), m13 = 0 → ∀ (m14 : Int), m14 = 0 → ∀ (m15 : Int), m15 = 0 → ∀ (m16 : Int), m16 = 0 → ∀ (m17 : Int), m17 = 0 → ∀ (m18 : Int), m18 = 0 → ∀ (m19 : Int), m19 = 0 → brc (AV.eqb 4 (AV.agg (List.reverse [AV.str { data := #[] }, AV.int IntKind.i64 m19, AV.int IntKind.u8 m18, AV.int IntKind.i64 m17, AV.int IntKind.i64 m16, AV.int IntKind.i64 m15, AV.int IntKind.i64 m14, AV.int IntKind.i64 m13, AV.str { data := #[] }, AV.int IntKind.i64 m12, AV.int IntKind.u8 m11, AV.int IntKind.i64 m10, AV.int IntKind.i64 m9, AV.int IntKind.i64 m8, AV.int IntKind.i64 m7, AV.int IntKind.i64 m6, AV.int IntKind.i64 m5, AV.int IntKind.i64 m4, AV.bool m3, AV.nilsl, AV.str { data := #[85, 84, 67] }, AV.bool m2, AV.int IntKind.i64 m1, AV.int IntKind.i64 m0, AV.str { data := #[85, 84, 67] }])) utcA && (decide (day_RightStamp.f k i u = some true) && (decide (i = 0) && Option.isSome (mkNum k 5 i u)))) (∀ (m20 : Int), m20 = gd (mkNum k 5 i u) → ∀ (m21 : Int), m21 = 0 → ∀ (m22 : Int), m22 = 0 → K (AV.int IntKind.i64 m20)) False) := by kernel_rfl
set_option maxRecDepth 100000 in
open A in
theorem vcN6 (k : Nat) (i u : Int) (K : AV → Prop) : afv PA Tryz.prog (tab [(17, exCon k), (18, utcCon)]) noLoops 20 14 [.str ⟨#[113, 117, 97, 114, 116, 101, 114]⟩, .agg [.int .i64 i, .int .i64 u]] K = (∀ (m0 : Int), m0 = 0 → ∀ (m1 : Int), m1 = 0 → ∀ (m2 : Bool), m2 = false → ∀ (m3 : Bool), m3 = false → ∀ (m4 : Int), m4 = 0 → ∀ (m5 : Int), m5 = 0 → ∀ (m6 : Int), m6 = 0 → ∀ (m7 : Int), m7 = 0 → ∀ (m8 : Int), m8 = 0 → ∀ (m9 : Int), m9 = 0 → ∀ (m10 : Int), m10 = 0 → ∀ (m11 : Int), m11 = 0 → ∀ (m12 : Int), m12 = 0 → ∀ (m13 : Int), m13 = 0 → ∀ (m14 : Int), m14 = 0 → ∀ (m15 : Int), m15 = 0 → ∀ (m16 : Int), m16 = 0 → ∀ (m17 : Int), m17 = 0 → ∀ (m18 : Int), m18 = 0 → ∀ (m19 : Int), m19 = 0 → brc (AV.eqb 4 (AV.agg (List.reverse [AV.str { data := #[] }, AV.int IntKind.i64 m19, AV.int IntKind.u8 m18, AV.int IntKind.i64 m17, AV.int IntKind.i64 m16, AV.int IntKind.i64 m15, AV.int IntKind.i64 m14, AV.int IntKind.i64 m13, AV.str { data := #[] }, AV.int IntKind.i64 m12, AV.int IntKind.u8 m11, AV.int IntKind.i64 m10, AV.int IntKind.i64 m9, AV.int IntKind.i64 m8, AV.int IntKind.i64 m7, AV.int IntKind.i64 m6, AV.int IntKind.i64 m5, AV.int IntKind.i64 m4, AV.bool m3, AV.nilsl, AV.str { data := #[85, 84, 67] }, AV.bool m2, AV.int IntKind.i64 m1, AV.int IntKind.i64 m0, AV.str { data := #[85, 84, 67] }])) utcA && (decide (day_RightStamp.f k i u = some true) && (decide (i = 0) && Option.isSome (mkNum k 6 i u)))) (∀ (m20 : Int), m20 = gd (mkNum k 6 i u) → ∀ (m21 : Int), m21 = 0 → ∀ (m22 : Int), m22 = 0 → K (AV.int IntKind.i64 m20)) False) := by kernel_rfl
set_option maxRecDepth 100000 in
open A in
theorem vcL (k : Nat) (i u : Int) (K : AV → Prop) : afv PA Tryz.prog (tab [(10, knCon), (13, rrCon k), (14, nmCon k), (15, maCon k), (16, stCon k), (17, exCon k), (18, utcCon), (19, drCon)]) noLoops 20 5 [.agg [.int .i64 i, .int .i64 u]] K = (brc (i != 0) (∀ (m0 : Bool), m0 = true → K (AV.bool m0)) (brc (Option.isSome (computusref15_RightStamp.f k i u)) (∀ (m0 : Bool), m0 = gd (computusref15_RightStamp.f k i u) → brc (!m0) (∀ (m1 : Bool), m1 = true → K (AV.bool m1)) (brc (decide (day_RightStamp.f k i u = some true) && (decide (i = 0) && Option.isSome (mkNum k 0 i u))) (∀ (m1 : Int), m1 = gd (mkNum k 0 i u) → brc (decide (m1 < 0)) (brc (decide (day_RightStamp.f k i u = some true) && (decide (i = 0) && Option.isSome (mkNum k 1 i u))) (∀ (m2 : Int), m2 = gd (mkNum k 1 i u) → brc (decide (day_RightStamp.f k i u = some true) && (decide (i = 0) && Option.isSome (mkNum k 2 i u))) (∀ (m3 : Int), m3 = gd (mkNum k 2 i u) → brc (Option.isSome (computusref15_Make.f k (IntKind.wrap IntKind.i64 (m1 + 1)) m2 m3)) (∀ (m4 : Int), m4 = Prod.fst (gd (computusref15_Make.f k (IntKind.wrap IntKind.i64 (m1 + 1)) m2 m3)) → ∀ (m5 : Int), m5 = Prod.fst (Prod.snd (gd (computusref15_Make.f k (IntKind.wrap IntKind.i64 (m1 + 1)) m2 m3))) → ∀ (m6 : Int), m6 = Prod.snd (Prod.snd (gd (computusref15_Make.f k (IntKind.wrap IntKind.i64 (m1 + 1)) m2 m3))) → brc (decide (day_RightStamp.f k i u = some true) && (decide (i = 0) && Option.isSome (mkNum k 3 i u))) (∀ (m7 : Int), m7 = gd (mkNum k 3 i u) → brc (decide (day_RightStamp.f k i u = some true) && (decide (i = 0) && Option.isSome (mkNum k 4 i u))) (∀ (m8 : Int), m8 = gd (mkNum k 4 i u) → brc (decide (day_RightStamp.f k i u = some true) && (decide (i = 0) && Option.isSome (mkNum k 5 i u))) (∀ (m9 : Int), m9 = gd (mkNum k 5 i u) → brc (Option.isSome (computusref15_Stamp.f k m4 m5 (IntKind.wrap IntKind.i64 (IntKind.wrap IntKind.i64 (IntKind.wrap IntKind.i64 (IntKind.wrap IntKind.i64 (m7 * 3600) * 1000000) + IntKind.wrap IntKind.i64 (IntKind.wrap IntKind.i64 (m8 * 60) * 1000000)) + m9)))) (∀ (m10 : Int), m10 = Prod.fst (gd (computusref15_Stamp.f k m4 m5 (IntKind.wrap IntKind.i64 (IntKind.wrap IntKind.i64 (IntKind.wrap IntKind.i64 (IntKind.wrap IntKind.i64 (m7 * 3600) * 1000000) + IntKind.wrap IntKind.i64 (IntKind.wrap IntKind.i64 (m8 * 60) * 1000000)) + m9)))) → ∀ (m11 : Int), m11 = Prod.fst (Prod.snd (gd (computusref15_Stamp.f k m4 m5 (IntKind.wrap IntKind.i64 (IntKind.wrap IntKind.i64 (IntKind.wrap IntKind.i64 (IntKind.wrap IntKind.i64 (m7 * 3600) * 1000000) + IntKind.wrap IntKind.i64 (IntKind.wrap IntKind.i64 (m8 * 60) * 1000000)) + m9))))) → ∀ (m12 : Int), m12 = Prod.snd (Prod.snd (gd (computusref15_Stamp.f k m4 m5 (IntKind.wrap IntKind.i64 (IntKind.wrap IntKind.i64 (IntKind.wrap IntKind.i64 (IntKind.wrap IntKind.i64 (m7 * 3600) * 1000000) + IntKind.wrap IntKind.i64 (IntKind.wrap IntKind.i64 (m8 * 60) * 1000000)) + m9))))) → brc (decide (day_RightStamp.f k i u = some true) && (decide (i = 0) && Option.isSome (mkNum k 6 i u))) (∀ (m13 : Int), m13 = gd (mkNum k 6 i u) → brc (decide (day_RightStamp.f k i u = some true) && (decide (i = 0) && Option.isSome (mkNum k 1 i u))) (∀ (m14 : Int), m14 = gd (mkNum k 1 i u) → ∀ (m15 : Int), m15 = 0 → ∀ (m16 : Int), m16 = 0 → ∀ (m17 : Bool), m17 = false → ∀ (m18 : Bool), m18 = false → ∀ (m19 : Int), m19 = 0 → ∀ (m20 : Int), m20 = 0 → ∀ (m21 : Int), m21 = 0 → ∀ (m22 : Int), m22 = 0 → ∀ (m23 : Int), m23 = 0 → ∀ (m24 : Int), m24 = 0 → ∀ (m25 : Int), m25 = 0 → ∀ (m26 : Int), m26 = 0 → ∀ (m27 : Int), m27 = 0 → ∀ (m28 : Int), m28 = 0 → ∀ (m29 : Int), m29 = 0 → ∀ (m30 : Int), m30 = 0 → ∀ (m31 : Int), m31 = 0 → ∀ (m32 : Int), m32 = 0 → ∀ (m33 : Int), m33 = 0 → ∀ (m34 : Int), m34 = 0 → brc (AV.eqb 4 (AV.agg (List.reverse [AV.str { data := #[] }, AV.int IntKind.i64 m34, AV.int IntKind.u8 m33, AV.int IntKind.i64 m32, AV.int IntKind.i64 m31, AV.int IntKind.i64 m30, AV.int IntKind.i64 m29, AV.int IntKind.i64 m28, AV.str { data := #[] }, AV.int IntKind.i64 m27, AV.int IntKind.u8 m26, AV.int IntKind.i64 m25, AV.int IntKind.i64 m24, AV.int IntKind.i64 m23, AV.int IntKind.i64 m22, AV.int IntKind.i64 m21, AV.int IntKind.i64 m20, AV.int IntKind.i64 m19, AV.bool m18, AV.nilsl, AV.str { data := #[85, 84, 67] }, AV.bool m17, AV.int IntKind.i64 m16, AV.int IntKind.i64 m15, AV.str { data := #[85, 84, 67] }])) utcA && (decide (day_RightStamp.f k i u = some true) && (decide (i = 0) && Option.isSome (mkEp u)))) (∀ (m35 : Int), m35 = Prod.fst (gd (mkEp u)) → ∀ (m36 : Int), m36 = Prod.fst (Prod.snd (gd (mkEp u))) → ∀ (m37 : Int), m37 = Prod.snd (Prod.snd (gd (mkEp u))) → brc (m37 == 0) (brc (m35 != IntKind.wrap IntKind.i64 (u + 946684800000000)) (K (AV.bool false)) (brc (m6 == 0) (brc (m12 == 0) (brc (m10 == i && (m11 == u && true)) (brc (m13 == IntKind.wrap IntKind.i64 (Int.tdiv (IntKind.wrap IntKind.i64 (m14 + 2)) 3)) (brc (Option.isSome (dec_Right.f m35 m36)) (∀ (m38 : Bool), m38 = gd (dec_Right.f m35 m36) → brc m38 (∀ (m39 : Bool), m39 = true → K (AV.bool m39)) (K (AV.bool false))) False) (K (AV.bool false))) (K (AV.bool false))) (K (AV.bool false))) (K (AV.bool false)))) (brc (m6 == 0) (brc (m12 == 0) (brc (m10 == i && (m11 == u && true)) (brc (m13 == IntKind.wrap IntKind.i64 (Int.tdiv (IntKind.wrap IntKind.i64 (m14 + 2)) 3)) (brc (Option.isSome (dec_Right.f m35 m36)) (∀ (m38 : Bool), m38 = gd (dec_Right.f m35 m36) → brc m38 (∀ (m39 : Bool), m39 = true → K (AV.bool m39)) (K (AV.bool false))) False) (K (AV.bool false))) (K (AV.bool false))) (K (AV.bool false))) (K (AV.bool false)))) False) False) False) False) False) False) False) False) False) False) (brc (decide (day_RightStamp.f k i u = some true) && (decide (i = 0) && Option.isSome (mkNum k 1 i u))) (∀ (m2 : Int), m2 = gd (mkNum k 1 i u) → brc (decide (day_RightStamp.f k i u = some true) && (decide (i = 0) && Option.isSome (mkNum k 2 i u))) (∀ (m3 : Int), m3 = gd (mkNum k 2 i u) → brc (Option.isSome (computusref15_Make.f k m1 m2 m3)) (∀ (m4 : Int), m4 = Prod.fst (gd (computusref15_Make.f k m1 m2 m3)) → ∀ (m5 : Int), m5 = Prod.fst (Prod.snd (gd (computusref15_Make.f k m1 m2 m3))) → ∀ (m6 : Int), m6 = Prod.snd (Prod.snd (gd (computusref15_Make.f k m1 m2 m3))) → brc (decide (day_RightStamp.f k i u = some true) && (decide (i = 0) && Option.isSome (mkNum k 3 i u))) (∀ (m7 : Int), m7 = gd (mkNum k 3 i u) → brc (decide (day_RightStamp.f k i u = some true) && (decide (i = 0) && Option.isSome (mkNum k 4 i u))) (∀ (m8 : Int), m8 = gd (mkNum k 4 i u) → brc (decide (day_RightStamp.f k i u = some true) && (decide (i = 0) && Option.isSome (mkNum k 5 i u))) (∀ (m9 : Int), m9 = gd (mkNum k 5 i u) → brc (Option.isSome (computusref15_Stamp.f k m4 m5 (IntKind.wrap IntKind.i64 (IntKind.wrap IntKind.i64 (IntKind.wrap IntKind.i64 (IntKind.wrap IntKind.i64 (m7 * 3600) * 1000000) + IntKind.wrap IntKind.i64 (IntKind.wrap IntKind.i64 (m8 * 60) * 1000000)) + m9)))) (∀ (m10 : Int), m10 = Prod.fst (gd (computusref15_Stamp.f k m4 m5 (IntKind.wrap IntKind.i64 (IntKind.wrap IntKind.i64 (IntKind.wrap IntKind.i64 (IntKind.wrap IntKind.i64 (m7 * 3600) * 1000000) + IntKind.wrap IntKind.i64 (IntKind.wrap IntKind.i64 (m8 * 60) * 1000000)) + m9)))) → ∀ (m11 : Int), m11 = Prod.fst (Prod.snd (gd (computusref15_Stamp.f k m4 m5 (IntKind.wrap IntKind.i64 (IntKind.wrap IntKind.i64 (IntKind.wrap IntKind.i64 (IntKind.wrap IntKind.i64 (m7 * 3600) * 1000000) + IntKind.wrap IntKind.i64 (IntKind.wrap IntKind.i64 (m8 * 60) * 1000000)) + m9))))) → ∀ (m12 : Int), m12 = Prod.snd (Prod.snd (gd (computusref15_Stamp.f k m4 m5 (IntKind.wrap IntKind.i64 (IntKind.wrap IntKind.i64 (IntKind.wrap IntKind.i64 (IntKind.wrap IntKind.i64 (m7 * 3600) * 1000000) + IntKind.wrap IntKind.i64 (IntKind.wrap IntKind.i64 (m8 * 60) * 1000000)) + m9))))) → brc (decide (day_RightStamp.f k i u = some true) && (decide (i = 0) && Option.isSome (mkNum k 6 i u))) (∀ (m13 : Int), m13 = gd (mkNum k 6 i u) → brc (decide (day_RightStamp.f k i u = some true) && (decide (i = 0) && Option.isSome (mkNum k 1 i u))) (∀ (m14 : Int), m14 = gd (mkNum k 1 i u) → ∀ (m15 : Int), m15 = 0 → ∀ (m16 : Int), m16 = 0 → ∀ (m17 : Bool), m17 = false → ∀ (m18 : Bool), m18 = false → ∀ (m19 : Int), m19 = 0 → ∀ (m20 : Int), m20 = 0 → ∀ (m21 : Int), m21 = 0 → ∀ (m22 : Int), m22 = 0 → ∀ (m23 : Int), m23 = 0 → ∀ (m24 : Int), m24 = 0 → ∀ (m25 : Int), m25 = 0 → ∀ (m26 : Int), m26 = 0 → ∀ (m27 : Int), m27 = 0 → ∀ (m28 : Int), m28 = 0 → ∀ (m29 : Int), m29 = 0 → ∀ (m30 : Int), m30 = 0 → ∀ (m31 : Int), m31 = 0 → ∀ (m32 : Int), m32 = 0 → ∀ (m33 : Int), m33 = 0 → ∀ (m34 : Int), m34 = 0 → brc (AV.eqb 4 (AV.agg (List.reverse [AV.str { data := #[] }, AV.int IntKind.i64 m34, AV.int IntKind.u8 m33, AV.int IntKind.i64 m32, AV.int IntKind.i64 m31, AV.int IntKind.i64 m30, AV.int IntKind.i64 m29, AV.int IntKind.i64 m28, AV.str { data := #[] }, AV.int IntKind.i64 m27, AV.int IntKind.u8 m26, AV.int IntKind.i64 m25, AV.int IntKind.i64 m24, AV.int IntKind.i64 m23, AV.int IntKind.i64 m22, AV.int IntKind.i64 m21, AV.int IntKind.i64 m20, AV.int IntKind.i64 m19, AV.bool m18, AV.nilsl, AV.str { data := #[85, 84, 67] }, AV.bool m17, AV.int IntKind.i64 m16, AV.int IntKind.i64 m15, AV.str { data := #[85, 84, 67] }])) utcA && (decide (day_RightStamp.f k i u = some true) && (decide (i = 0) && Option.isSome (mkEp u)))) (∀ (m35 : Int), m35 = Prod.fst (gd (mkEp u)) → ∀ (m36 : Int), m36 = Prod.fst (Prod.snd (gd (mkEp u))) → ∀ (m37 : Int), m37 = Prod.snd (Prod.snd (gd (mkEp u))) → brc (m37 == 0) (brc (m35 != IntKind.wrap IntKind.i64 (u + 946684800000000)) (K (AV.bool false)) (brc (m6 == 0) (brc (m12 == 0) (brc (m10 == i && (m11 == u && true)) (brc (m13 == IntKind.wrap IntKind.i64 (Int.tdiv (IntKind.wrap IntKind.i64 (m14 + 2)) 3)) (brc (Option.isSome (dec_Right.f m35 m36)) (∀ (m38 : Bool), m38 = gd (dec_Right.f m35 m36) → brc m38 (∀ (m39 : Bool), m39 = true → K (AV.bool m39)) (K (AV.bool false))) False) (K (AV.bool false))) (K (AV.bool false))) (K (AV.bool false))) (K (AV.bool false)))) (brc (m6 == 0) (brc (m12 == 0) (brc (m10 == i && (m11 == u && true)) (brc (m13 == IntKind.wrap IntKind.i64 (Int.tdiv (IntKind.wrap IntKind.i64 (m14 + 2)) 3)) (brc (Option.isSome (dec_Right.f m35 m36)) (∀ (m38 : Bool), m38 = gd (dec_Right.f m35 m36) → brc m38 (∀ (m39 : Bool), m39 = true → K (AV.bool m39)) (K (AV.bool false))) False) (K (AV.bool false))) (K (AV.bool false))) (K (AV.bool false))) (K (AV.bool false)))) False) False) False) False) False) False) False) False) False) False)) False)) False)) := by kernel_rfl
open A in
@[irreducible] def ExGoal (k j : Nat) (i u : Int) (s : ByteArray) : Prop := afv PA Tryz.prog (tab [(44, mkR k), (30, mkO k), (37, mkP), (56, mkA)]) noLoops 40 17 [utcA, .str s, mkV i u] fun x => x = .tup [.agg [.int .i64 (gd (mkNum k j i u)), .int .i64 0], .int .i64 0]
set_option linter.unusedSimpArgs false in
set_option maxHeartbeats 8000000 in
set_option maxRecDepth 100000 in
open A in
theorem ex_fin {k : Nat} {i u : Int} (j : Nat) (hj : j < 7) {s : ByteArray} (hs : fld s = some j) (hR : day_RightStamp.f k i u = some true) (hi : i = 0) (hN : (mkNum k j i u).isSome = true) :
    ExGoal k j i u s := by
  subst hi
  have hs := fld_ok hs
  rcases hO : day_Of.f k 0 u with _ | ⟨o1, o2, o3, o4⟩
  · simp [mkNum, hO] at hN
  have noP : day_Parts.f o1 o2 = none → (j = 0 ∨ j = 1 ∨ j = 2 ∨ j = 6) → False := fun hP hj => by
    rcases hj with rfl | rfl | rfl | rfl <;> simp [mkNum, hO, hP] at hN
  rcases hs with ⟨rfl, rfl⟩ | ⟨rfl, rfl⟩ | ⟨rfl, rfl⟩ | ⟨rfl, rfl⟩ | ⟨rfl, rfl⟩ | ⟨rfl, rfl⟩ | ⟨rfl, rfl⟩ | ⟨rfl, rfl⟩
  · unfold ExGoal; rw [vcX0]
    rcases hP : day_Parts.f o1 o2 with _ | ⟨p1, p2, p3, p4⟩
    · exact (noP hP (by simp)).elim
    by_cases hl : p1 < 1
    · have hl2 : ¬ 1 ≤ p1 := by omega
      simp [brc_iff, gd_some, hR, hO, hP, mkNum, wrap_i64, hl, hl2]
    · simp [brc_iff, gd_some, hR, hO, hP, mkNum, wrap_i64, hl]
  · unfold ExGoal; rw [vcX1]
    rcases hP : day_Parts.f o1 o2 with _ | ⟨p1, p2, p3, p4⟩
    · exact (noP hP (by simp)).elim
    simp [brc_iff, gd_some, hR, hO, hP, mkNum, wrap_i64]
  · unfold ExGoal; rw [vcX2]
    rcases hP : day_Parts.f o1 o2 with _ | ⟨p1, p2, p3, p4⟩
    · exact (noP hP (by simp)).elim
    simp [brc_iff, gd_some, hR, hO, hP, mkNum, wrap_i64]
  · unfold ExGoal; rw [vcX3]; simp [brc_iff, gd_some, hR, hO, mkNum, wrap_i64]
  · unfold ExGoal; rw [vcX4]; simp [brc_iff, gd_some, hR, hO, mkNum, wrap_i64]
  · unfold ExGoal; rw [vcX5]; simp [brc_iff, gd_some, hR, hO, mkNum, wrap_i64]
  · unfold ExGoal; rw [vcX6]
    rcases hP : day_Parts.f o1 o2 with _ | ⟨p1, p2, p3, p4⟩
    · exact (noP hP (by simp)).elim
    simp [brc_iff, gd_some, hR, hO, hP, mkNum, wrap_i64]
  · omega
open A in
@[irreducible] def EpGoal (k : Nat) (i u : Int) (s : ByteArray) : Prop := afv PA Tryz.prog (tab [(44, mkR k), (30, mkO k), (37, mkP), (56, mkA)]) noLoops 40 17 [utcA, .str s, mkV i u] fun x => x = .tup [.agg [.int .i64 (gd (mkEp u)).1, .int .i64 (gd (mkEp u)).2.1], .int .i64 (gd (mkEp u)).2.2]
set_option linter.unusedSimpArgs false in
set_option maxHeartbeats 8000000 in
set_option maxRecDepth 100000 in
open A in
theorem ep_fin {k : Nat} {i u : Int} {s : ByteArray} (hs : fld s = some 7) (hR : day_RightStamp.f k i u = some true) (hi : i = 0) (hN : (mkEp u).isSome = true) :
    EpGoal k i u s := by
  subst hi
  have hs := fld_ok hs
  obtain rfl : s = ⟨#[101, 112, 111, 99, 104]⟩ := by simpa using hs
  unfold EpGoal; rw [vcX7]
  rcases hA : num_Add.f u 946684800000000 with _ | ⟨a1, a2⟩
  · simp [mkEp, hA] at hN
  by_cases hz : a2 = 0 <;> simp [brc_iff, gd_some, hR, hA, mkEp, hz]
set_option linter.unusedSimpArgs false in
set_option maxHeartbeats 8000000 in
set_option maxRecDepth 100000 in
open A in
theorem exCon_ok (k : Nat) : COk Tryz.prog 17 (exCon k) := by
  refine con_ok mixed (tab_cons (mkR_ok k) (tab_cons (mkO_ok k) (tab_cons mkP_ok (tab_cons mkA_ok tab_nil)))) (by kernel_rfl) (ltOk_none Tryz.prog 17) ?_
  intro args p v hc hp
  unfold exCon at hc
  split at hc
  case h_2 => cases hc
  split at hc
  case h_2 => cases hc
  rename_i i u hv
  have hv := valOf_ok hv
  subst hv
  split at hc
  · rename_i hs
    simp only [Option.some.injEq, Prod.mk.injEq] at hc
    obtain ⟨rfl, rfl⟩ := hc
    simp only [Bool.and_eq_true, decide_eq_true_eq] at hp
    obtain ⟨ht, hR, hi, hN⟩ := hp
    have ht := eqb_ok 4 _ _ ht
    subst ht
    have hq := ep_fin hs hR hi hN
    unfold EpGoal at hq
    refine ⟨rfl, 40, ?_⟩
    with_reducible exact hq
  · rename_i j hj hs
    simp only [Option.some.injEq, Prod.mk.injEq] at hc
    obtain ⟨rfl, rfl⟩ := hc
    simp only [Bool.and_eq_true, decide_eq_true_eq] at hp
    obtain ⟨ht, hR, hi, hN⟩ := hp
    have ht := eqb_ok 4 _ _ ht
    subst ht
    have h8 : j < 7 := by rcases fld_ok hs with ⟨h, -⟩ | ⟨h, -⟩ | ⟨h, -⟩ | ⟨h, -⟩ | ⟨h, -⟩ | ⟨h, -⟩ | ⟨h, -⟩ | ⟨h, -⟩ <;> first | omega | exact (hj h).elim
    have hq := ex_fin j h8 hs hR hi hN
    unfold ExGoal at hq
    refine ⟨rfl, 40, ?_⟩
    with_reducible exact hq
  · cases hc
set_option maxRecDepth 100000 in
open A in
theorem utc_rev : AV.agg [.str ⟨#[85, 84, 67]⟩, .int .i64 0, .int .i64 0, .bool false, .str ⟨#[85, 84, 67]⟩, .nilsl, .bool false, .int .i64 0, .int .i64 0, .int .i64 0, .int .i64 0, .int .i64 0, .int .i64 0, .int .i64 0, .int .u8 0, .int .i64 0, .str ⟨#[]⟩, .int .i64 0, .int .i64 0, .int .i64 0, .int .i64 0, .int .i64 0, .int .u8 0, .int .i64 0, .str ⟨#[]⟩] = utcA := rfl
set_option maxRecDepth 100000 in
open A in
theorem utc_same : AV.eqb 4 utcA utcA = true := by kernel_rfl
set_option linter.unusedSimpArgs false in
set_option maxHeartbeats 8000000 in
set_option maxRecDepth 100000 in
open A in
theorem nmCon_ok (k : Nat) : COk Tryz.prog 14 (nmCon k) := by
  refine con_ok mixed (tab_cons (exCon_ok k) (tab_cons utcCon_ok tab_nil)) (by kernel_rfl) (ltOk_none Tryz.prog 14) ?_
  intro args p v hc hp
  unfold nmCon at hc
  split at hc
  case h_2 => cases hc
  rename_i s i u
  split at hc
  · cases hc
  · rename_i j hj hs
    simp only [Option.some.injEq, Prod.mk.injEq] at hc
    obtain ⟨rfl, rfl⟩ := hc
    simp only [Bool.and_eq_true, decide_eq_true_eq] at hp
    obtain ⟨hR, hi, hN⟩ := hp
    subst hi
    refine ⟨rfl, 20, ?_⟩
    rcases fld_ok hs with ⟨rfl, rfl⟩ | ⟨rfl, rfl⟩ | ⟨rfl, rfl⟩ | ⟨rfl, rfl⟩ | ⟨rfl, rfl⟩ | ⟨rfl, rfl⟩ | ⟨rfl, rfl⟩ | ⟨rfl, rfl⟩
    · rw [vcN0]; simp [brc_iff, utc_rev, utc_same, hR, hN]
    · rw [vcN1]; simp [brc_iff, utc_rev, utc_same, hR, hN]
    · rw [vcN2]; simp [brc_iff, utc_rev, utc_same, hR, hN]
    · rw [vcN3]; simp [brc_iff, utc_rev, utc_same, hR, hN]
    · rw [vcN4]; simp [brc_iff, utc_rev, utc_same, hR, hN]
    · rw [vcN5]; simp [brc_iff, utc_rev, utc_same, hR, hN]
    · rw [vcN6]; simp [brc_iff, utc_rev, utc_same, hR, hN]
    · exact (hj rfl).elim
  · cases hc
def computuslaw20_OpsMakes.f (k : Nat) (a0_0 : Int) (a0_1 : Int) : Option (Bool) :=
  if a0_0 ≠ 0 then some true else
  (computusref15_RightStamp.f k a0_0 a0_1).bind fun r => if r = false then some true else
  (day_RightStamp.f k a0_0 a0_1).bind fun t => if t = true then
  ((mkNum k 0 a0_0 a0_1).bind fun y => (mkNum k 1 a0_0 a0_1).bind fun m => (mkNum k 2 a0_0 a0_1).bind fun d => (computusref15_Make.f k (if y < 0 then wrap64 (y + 1) else y) m d).bind fun x =>
  (mkNum k 3 a0_0 a0_1).bind fun h => (mkNum k 4 a0_0 a0_1).bind fun n => (mkNum k 5 a0_0 a0_1).bind fun v =>
  (computusref15_Stamp.f k x.1 x.2.1 (wrap64 (wrap64 (wrap64 (wrap64 (h * 3600) * 1000000) + wrap64 (wrap64 (n * 60) * 1000000)) + v))).bind fun s =>
  (mkNum k 6 a0_0 a0_1).bind fun q => (mkEp a0_1).bind fun p => (dec_Right.f p.1 p.2.1).bind fun g =>
  if (p.2.2 = 0 → p.1 = wrap64 (a0_1 + 946684800000000)) ∧ x.2.2 = 0 ∧ s.2.2 = 0 ∧ s.1 = a0_0 ∧ s.2.1 = a0_1 ∧ q = wrap64 (Int.tdiv (wrap64 (m + 2)) 3) ∧ g = true then some true else none)
  else none
set_option linter.unusedSimpArgs false in
set_option maxHeartbeats 8000000 in
set_option maxRecDepth 100000 in
open A in
theorem computuslaw20_OpsMakes.calls (k : Nat) (a0_0 : Int) (a0_1 : Int) (r : Bool) (w : World) (h : computuslaw20_OpsMakes.f k a0_0 a0_1 = some r) (hR : r = true) :
    Calls Tryz.prog 5 #[.agg #[.int .i64 a0_0, .int .i64 a0_1]] w fun e w' => e = .returned (.bool r) ∧ Below w.heap.size w w' := by
  subst hR
  have hT := tab_cons knCon_ok (tab_cons (rrCon_ok k) (tab_cons (nmCon_ok k) (tab_cons (maCon_ok k) (tab_cons (stCon_ok k) (tab_cons (exCon_ok k) (tab_cons utcCon_ok (tab_cons drCon_ok tab_nil)))))))
  have hA : RL noNames w [.agg [.int .i64 a0_0, .int .i64 a0_1]] [.agg #[.int .i64 a0_0, .int .i64 a0_1]] := by simp [rl_cons, rl_nil, rv_int, rv_agg]
  have hV : ∀ ρ V', RV ρ w (AV.bool true) V' → V' = .bool true := fun ρ V' hV => by simpa [rv_bool] using hV
  refine calls_of_vc hT (n := 20) (g := 5) ?_ hA hV
  rw [vcL]
  unfold computuslaw20_OpsMakes.f at h
  by_cases hi : a0_0 = 0
  case neg => simp [brc_iff, hi]
  subst hi
  rw [if_neg (by simp)] at h
  rcases h0 : computusref15_RightStamp.f k 0 a0_1 with _ | r0
  · rw [h0] at h; cases h
  rw [h0] at h
  cases r0 with
  | false => simp [brc_iff, h0, gd_some]
  | true =>
  simp only [Option.bind_some, Bool.true_eq_false, if_false] at h
  simp only [Option.bind_eq_some_iff] at h
  obtain ⟨t, ht, h⟩ := h
  split at h
  case isFalse => cases h
  rename_i htt
  subst htt
  simp only [Option.bind_eq_some_iff] at h
  obtain ⟨y, hy, m, hm, d, hd, x, hx, hh, hhh, n, hn, v, hv, s, hs, q, hq, p, hp, g, hg, h⟩ := h
  split at h
  case isFalse => cases h
  rename_i hc
  obtain ⟨c1, c2, c3, c4, c5, c6, c7⟩ := hc
  by_cases hl : y < 0
  · rw [if_pos hl] at hx
    have hnl : ¬ 0 ≤ y := by omega
    by_cases hz : p.2.2 = 0
    · rw [c1 hz] at hg
      simp [brc_iff, wrap_i64, h0, ht, hy, hm, hd, hx, hhh, hn, hv, hs, hq, hp, hg, gd_some, utc_rev, utc_same, hl, hnl, hz, c1 hz, c2, c3, c4, c5, ← c6, c7]
    · simp [brc_iff, wrap_i64, h0, ht, hy, hm, hd, hx, hhh, hn, hv, hs, hq, hp, hg, gd_some, utc_rev, utc_same, hl, hnl, hz, c2, c3, c4, c5, ← c6, c7]
  · rw [if_neg hl] at hx
    have hnl : 0 ≤ y := by omega
    by_cases hz : p.2.2 = 0
    · rw [c1 hz] at hg
      simp [brc_iff, wrap_i64, h0, ht, hy, hm, hd, hx, hhh, hn, hv, hs, hq, hp, hg, gd_some, utc_rev, utc_same, hl, hnl, hz, c1 hz, c2, c3, c4, c5, ← c6, c7]
    · simp [brc_iff, wrap_i64, h0, ht, hy, hm, hd, hx, hhh, hn, hv, hs, hq, hp, hg, gd_some, utc_rev, utc_same, hl, hnl, hz, c2, c3, c4, c5, ← c6, c7]
def computuslaw20_OpsMakes.Pure : Prop := ∀ (a0_0 : Int) (a0_1 : Int), (Lit.int .i64 a0_0).wf = true → (Lit.int .i64 a0_1).wf = true → ∃ k, computuslaw20_OpsMakes.f k a0_0 a0_1 = some true
theorem computuslaw20_OpsMakes.walk (P : computuslaw20_OpsMakes.Pure) (a0_0 : Int) (a0_1 : Int) (w : World) (w0_0 : (Lit.int .i64 a0_0).wf = true) (w0_1 : (Lit.int .i64 a0_1).wf = true) :
    Calls Tryz.prog 5 #[.agg #[.int .i64 a0_0, .int .i64 a0_1]] w fun e w' => e = .returned (.bool true) ∧ Below w.heap.size w w' := by
  obtain ⟨k, h⟩ := P a0_0 a0_1 w0_0 w0_1
  refine (computuslaw20_OpsMakes.calls k a0_0 a0_1 true w h rfl).mono ?_
  rintro e w' ⟨rfl, hd⟩
  exact ⟨rfl, hd⟩
end Go.Proofs.YthkmckmfgglafaaGreat.P
namespace Go.Proofs.YthkmckmfgglafaaGreat.Civ
set_option linter.unusedVariables false
set_option linter.unusedSimpArgs false
open Go.RowKit Go.Proofs.YthkmckmfgglafaaGreatW.PrintWords Go.Proofs.YthkmckmfgglafaaGreatW.PrintLast Go.Proofs.YthkmckmfgglafaaGreatW.PrintMore
theorem w64 {x : Int} (h1 : -9223372036854775808 ≤ x) (h2 : x ≤ 9223372036854775807) : wrap64 x = x := by unfold wrap64; omega
/-- A number is one of 64 bits. -/
def I64 (x : Int) : Prop := -9223372036854775808 ≤ x ∧ x ≤ 9223372036854775807
theorem i64_of_wf {x : Int} (h : (Lit.int .i64 x).wf = true) : I64 x := by
  simp only [Lit.wf, IntKind.min, IntKind.max, IntKind.signed, IntKind.bits, Bool.and_eq_true, decide_eq_true_eq, if_true] at h
  exact h
theorem wrap_i64 (x : Int) : I64 (wrap64 x) := by unfold I64 wrap64; omega
theorem w64_of {x : Int} (h : I64 x) : wrap64 x = x := w64 h.1 h.2
theorem td_pos {a b : Int} (ha : 0 ≤ a) : Int.tdiv a b = a / b := Int.tdiv_eq_ediv_of_nonneg ha
theorem tm_pos {a b : Int} (ha : 0 ≤ a) : Int.tmod a b = a % b := Int.tmod_eq_emod_of_nonneg ha
theorem td_neg {a b : Int} (ha : a ≤ 0) : Int.tdiv a b = -((-a) / b) := by
  have : Int.tdiv (-a) b = (-a) / b := Int.tdiv_eq_ediv_of_nonneg (by omega)
  rw [← this, Int.neg_tdiv, Int.neg_neg]
theorem tm_neg {a b : Int} (ha : a ≤ 0) : Int.tmod a b = -((-a) % b) := by
  have : Int.tmod (-a) b = (-a) % b := Int.tmod_eq_emod_of_nonneg (by omega)
  rw [← this, Int.neg_tmod, Int.neg_neg]
/-- Cut division against floored division. -/
theorem cut_floor (a : Int) {b : Int} (hb : 0 < b) : (Int.tmod a b < 0 → Int.tdiv a b = a / b + 1 ∧ Int.tmod a b = a % b - b ∧ 0 < a % b) ∧ (¬ Int.tmod a b < 0 → Int.tdiv a b = a / b ∧ Int.tmod a b = a % b) := by
  rcases Int.le_total 0 a with h | h
  · rw [td_pos h, tm_pos h]
    have := Int.emod_nonneg a (Int.ne_of_gt hb)
    exact ⟨fun h => by omega, fun _ => ⟨rfl, rfl⟩⟩
  · rw [td_neg h, tm_neg h]
    have e := Int.mul_ediv_add_emod (-a) b
    have h1 := Int.emod_nonneg (-a) (Int.ne_of_gt hb)
    have h2 := Int.emod_lt_of_pos (-a) hb
    generalize (-a) / b = q at *
    generalize (-a) % b = r at *
    constructor
    · intro hr
      have := (Int.ediv_emod_unique (a := a) (b := b) (r := b - r) (q := -q - 1) hb).2 ⟨by rw [Int.mul_sub, Int.mul_neg]; omega, by omega, by omega⟩
      omega
    · intro hr
      have := (Int.ediv_emod_unique (a := a) (b := b) (r := 0) (q := -q) hb).2 ⟨by rw [Int.mul_neg]; omega, by omega, by omega⟩
      omega
theorem ediv_i64 {a b : Int} (ha : I64 a) (hb : 0 < b) : -9223372036854775808 ≤ a / b ∧ a / b ≤ 9223372036854775807 := by
  obtain ⟨h1, h2⟩ := ha
  have e := Int.mul_ediv_add_emod a b
  have g1 := Int.emod_nonneg a (Int.ne_of_gt hb)
  have g2 := Int.emod_lt_of_pos a hb
  constructor
  · rw [Int.le_ediv_iff_mul_le hb]
    have : -9223372036854775808 * b ≤ -9223372036854775808 * 1 := Int.mul_le_mul_of_nonpos_left (by omega) (by omega)
    omega
  · rcases Int.lt_or_le a 0 with h | h
    · have : a / b < 0 := Int.ediv_lt_of_lt_mul hb (by omega)
      omega
    · have := Int.ediv_le_self b h; omega
theorem Ev.at1 {α : Type} {g : Nat → Option α} {r : α} (h : ∀ k, g (k + 1) = some r) : Ev g r :=
  ⟨1, fun k hk => by obtain ⟨m, rfl⟩ : ∃ m, k = m + 1 := ⟨k - 1, by omega⟩; exact h m⟩
theorem Ev.at2 {α : Type} {g : Nat → Option α} {r : α} (h : ∀ k, g (k + 2) = some r) : Ev g r :=
  ⟨2, fun k hk => by obtain ⟨m, rfl⟩ : ∃ m, k = m + 2 := ⟨k - 2, by omega⟩; exact h m⟩
theorem Ev.cast {α : Type} {g : Nat → Option α} {r r' : α} (h : Ev g r) (e : r = r') : Ev g r' := e ▸ h
/-- What is told without rounds, and then what hangs on rounds. -/
theorem Ev.bind0 {α β : Type} {g : Option α} {f : Nat → α → Option β} {a : α} {r : β} (h : g = some a) (k : Ev (fun n => f n a) r) : Ev (fun n => g.bind (f n)) r := by
  subst h; exact k
/-- One round, as it stands. -/
theorem Ev.succ {α : Type} {g : Nat → Option α} {r : α} (h : Ev (fun k => g (k + 1)) r) : Ev g r := Ev.step (f := fun k => g (k + 1)) (fun _ => rfl) h
theorem Ev.pos {α : Type} {c : Prop} [Decidable c] {f g : Nat → Option α} {r : α} (h : c) (k : Ev f r) : Ev (fun n => if c then f n else g n) r := by
  simpa only [if_pos h] using k
theorem Ev.neg {α : Type} {c : Prop} [Decidable c] {f g : Nat → Option α} {r : α} (h : ¬ c) (k : Ev g r) : Ev (fun n => if c then f n else g n) r := by
  simpa only [if_neg h] using k
end Go.Proofs.YthkmckmfgglafaaGreat.Civ
