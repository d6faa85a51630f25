-- Written by a program of the session (a print of the seat's translation, functions given by hand among it). Lean checks it.
import Derived.Test.YthkmckmfgglafaaGreatQnliaojbdha
import Derived.Test.YthkmckmfgglafaaGreatQkinaimmkig
import Derived.Test.YthkmckmfgglafaaGreatQppofmepjaj
import Derived.Test.YthkmckmfgglafaaGreatQeebcdcbikh
import Derived.Test.YthkmckmfgglafaaGreatQecmnpimjbc
import Derived.Test.YthkmckmfgglafaaGreatQdlkkpdfgpb
import Derived.Test.YthkmckmfgglafaaGreatQaejhnhmgim
import Derived.Test.YthkmckmfgglafaaGreatQpofcaiddlp
namespace Go.Proofs.YthkmckmfgglafaaGreat.P
open Go.RowKit Go.Proofs.YthkmckmfgglafaaGreatW.PrintWords Go.Proofs.YthkmckmfgglafaaGreatW.PrintLast Go.Proofs.YthkmckmfgglafaaGreatW.PrintMore
open Go.Proofs.YthkmckmfgglafaaGreat.A
attribute [local go_sem] max2_int min2_int max_two min_two max_three min_three max_four min_four   -- for this text's walks alone
set_option linter.unusedVariables false
set_option linter.unusedSimpArgs false
def computusref01_Mod.f (k : Nat) (a0 : Int) (a1 : Int) : Option (Int × Int) := if a1 = 0 then (some (0, 11)) else ((computusref01_Of.f a0).bind fun bt550 => ((computusref01_Of.f a1).bind fun bt554 => ((computusref01_Of.f a0).bind fun bt558 => ((computusref01_Of.f a1).bind fun bt562 => ((computusref01_Over.f k bt558.1 bt558.2 bt562.1 bt562.2).bind fun bt566 => ((computusref01_Times.f k bt554.1 bt554.2 bt566.1 bt566.2).bind fun bt570 => ((computusref01_Minus.f k bt570.1 bt570.2).bind fun bt574 => ((computusref01_Plus.f k bt550.1 bt550.2 bt574.1 bt574.2).bind fun bt578 => ((computusref01_Small.f k bt578.1 bt578.2).bind fun bt582 => (some (bt582.1, bt582.2)))))))))))
theorem computusref01_Mod.mono : ∀ a0 a1 k, LeO (computusref01_Mod.f k a0 a1) (computusref01_Mod.f (k + 1) a0 a1) := by
  intro a0 a1 k
  unfold computusref01_Mod.f
  repeat' first
      | (with_reducible exact computusref01_Minus.mono _ _ _)
      | (with_reducible exact computusref01_Over.mono _ _ _ _ _)
      | (with_reducible exact computusref01_Plus.mono _ _ _ _ _)
      | (with_reducible exact computusref01_Small.mono _ _ _)
      | (with_reducible exact computusref01_Times.mono _ _ _ _ _)
      | (with_reducible exact LeO.refl _)
      | (with_reducible exact LeO.none _)
      | (with_reducible refine LeO.ite ?_ ?_)
      | (with_reducible refine LeO.bind ?_ (fun _ => ?_))
      | exact computusref01_Minus.mono _ _ _
      | exact computusref01_Over.mono _ _ _ _ _
      | exact computusref01_Plus.mono _ _ _ _ _
      | exact computusref01_Small.mono _ _ _
      | exact computusref01_Times.mono _ _ _ _ _
      | exact LeO.none _
      | refine LeO.ite ?_ ?_
      | refine LeO.bind ?_ (fun _ => ?_)
set_option maxHeartbeats 8000000 in
set_option maxRecDepth 100000 in
theorem computusref01_Mod.calls (k : Nat) (a0 : Int) (a1 : Int) (r1 : Int) (r2 : Int) (w : World) (h : computusref01_Mod.f k a0 a1 = some (r1, r2)) :
    Calls Tryz.prog 99 #[.int .i64 a0, .int .i64 a1] w fun e w' => e = .returned (.tuple #[.int .i64 r1, .int .i64 r2]) ∧ Below w.heap.size w w' := by
  have HB := Aside0.mk (Below.refl w.heap.size w)
  have H : (if a1 = 0 then (some (0, 11)) else ((computusref01_Of.f a0).bind fun bt550 => ((computusref01_Of.f a1).bind fun bt554 => ((computusref01_Of.f a0).bind fun bt558 => ((computusref01_Of.f a1).bind fun bt562 => ((computusref01_Over.f k bt558.1 bt558.2 bt562.1 bt562.2).bind fun bt566 => ((computusref01_Times.f k bt554.1 bt554.2 bt566.1 bt566.2).bind fun bt570 => ((computusref01_Minus.f k bt570.1 bt570.2).bind fun bt574 => ((computusref01_Plus.f k bt550.1 bt550.2 bt574.1 bt574.2).bind fun bt578 => ((computusref01_Small.f k bt578.1 bt578.2).bind fun bt582 => (some (bt582.1, bt582.2)))))))))))) = some (r1, r2) := h
  clear h
  by_cases c3 : a1 = 0
  · rw [if_pos c3] at H
    have c3b0 : (a1 == 0) = true := beq_iff_eq.mpr c3
    have c3b1 : (a1 != 0) = false := bne_eq_false_iff_eq.mpr c3
    clear c3
    simp only [Option.some.injEq, Prod.mk.injEq] at H
    obtain ⟨rfl, rfl⟩ := H
    go_enter Tryz.func99, Tryz.ntmps99
    go_wp2
    go_ret2
    exact ⟨by first | rfl | (simp [errW_none, errW_some] <;> rfl) | (simp [*, errW_none, errW_some] <;> rfl), by repeat (first | (with_reducible first | exact HB.out | apply kC | apply kA | apply kB) | exact HB.out)⟩
  · rw [if_neg c3] at H
    have c3b0 : (a1 == 0) = false := beq_eq_false_iff_ne.mpr c3
    have c3b1 : (a1 != 0) = true := bne_iff_ne.mpr c3
    replace H := Option.bind_eq_some_iff.mp H
    obtain ⟨⟨t550, t551⟩, A40, H⟩ := H
    replace H : ((computusref01_Of.f a1).bind fun bt554 => ((computusref01_Of.f a0).bind fun bt558 => ((computusref01_Of.f a1).bind fun bt562 => ((computusref01_Over.f k bt558.1 bt558.2 bt562.1 bt562.2).bind fun bt566 => ((computusref01_Times.f k bt554.1 bt554.2 bt566.1 bt566.2).bind fun bt570 => ((computusref01_Minus.f k bt570.1 bt570.2).bind fun bt574 => ((computusref01_Plus.f k t550 t551 bt574.1 bt574.2).bind fun bt578 => ((computusref01_Small.f k bt578.1 bt578.2).bind fun bt582 => (some (bt582.1, bt582.2)))))))))) = some (r1, r2) := H
    have A4 := Aside0.mk A40
    clear A40
    replace H := Option.bind_eq_some_iff.mp H
    obtain ⟨⟨t554, t555⟩, A50, H⟩ := H
    replace H : ((computusref01_Of.f a0).bind fun bt558 => ((computusref01_Of.f a1).bind fun bt562 => ((computusref01_Over.f k bt558.1 bt558.2 bt562.1 bt562.2).bind fun bt566 => ((computusref01_Times.f k t554 t555 bt566.1 bt566.2).bind fun bt570 => ((computusref01_Minus.f k bt570.1 bt570.2).bind fun bt574 => ((computusref01_Plus.f k t550 t551 bt574.1 bt574.2).bind fun bt578 => ((computusref01_Small.f k bt578.1 bt578.2).bind fun bt582 => (some (bt582.1, bt582.2))))))))) = some (r1, r2) := H
    have A5 := Aside0.mk A50
    clear A50
    replace H := Option.bind_eq_some_iff.mp H
    obtain ⟨⟨t558, t559⟩, A60, H⟩ := H
    replace H : ((computusref01_Of.f a1).bind fun bt562 => ((computusref01_Over.f k t558 t559 bt562.1 bt562.2).bind fun bt566 => ((computusref01_Times.f k t554 t555 bt566.1 bt566.2).bind fun bt570 => ((computusref01_Minus.f k bt570.1 bt570.2).bind fun bt574 => ((computusref01_Plus.f k t550 t551 bt574.1 bt574.2).bind fun bt578 => ((computusref01_Small.f k bt578.1 bt578.2).bind fun bt582 => (some (bt582.1, bt582.2)))))))) = some (r1, r2) := H
    have A6 := Aside0.mk A60
    clear A60
    replace H := Option.bind_eq_some_iff.mp H
    obtain ⟨⟨t562, t563⟩, A70, H⟩ := H
    replace H : ((computusref01_Over.f k t558 t559 t562 t563).bind fun bt566 => ((computusref01_Times.f k t554 t555 bt566.1 bt566.2).bind fun bt570 => ((computusref01_Minus.f k bt570.1 bt570.2).bind fun bt574 => ((computusref01_Plus.f k t550 t551 bt574.1 bt574.2).bind fun bt578 => ((computusref01_Small.f k bt578.1 bt578.2).bind fun bt582 => (some (bt582.1, bt582.2))))))) = some (r1, r2) := H
    have A7 := Aside0.mk A70
    clear A70
    replace H := Option.bind_eq_some_iff.mp H
    obtain ⟨⟨t566, t567⟩, A80, H⟩ := H
    replace H : ((computusref01_Times.f k t554 t555 t566 t567).bind fun bt570 => ((computusref01_Minus.f k bt570.1 bt570.2).bind fun bt574 => ((computusref01_Plus.f k t550 t551 bt574.1 bt574.2).bind fun bt578 => ((computusref01_Small.f k bt578.1 bt578.2).bind fun bt582 => (some (bt582.1, bt582.2)))))) = some (r1, r2) := H
    have A8 := Aside0.mk A80
    clear A80
    replace H := Option.bind_eq_some_iff.mp H
    obtain ⟨⟨t570, t571⟩, A90, H⟩ := H
    replace H : ((computusref01_Minus.f k t570 t571).bind fun bt574 => ((computusref01_Plus.f k t550 t551 bt574.1 bt574.2).bind fun bt578 => ((computusref01_Small.f k bt578.1 bt578.2).bind fun bt582 => (some (bt582.1, bt582.2))))) = some (r1, r2) := H
    have A9 := Aside0.mk A90
    clear A90
    replace H := Option.bind_eq_some_iff.mp H
    obtain ⟨⟨t574, t575⟩, A100, H⟩ := H
    replace H : ((computusref01_Plus.f k t550 t551 t574 t575).bind fun bt578 => ((computusref01_Small.f k bt578.1 bt578.2).bind fun bt582 => (some (bt582.1, bt582.2)))) = some (r1, r2) := H
    have A10 := Aside0.mk A100
    clear A100
    replace H := Option.bind_eq_some_iff.mp H
    obtain ⟨⟨t578, t579⟩, A110, H⟩ := H
    replace H : ((computusref01_Small.f k t578 t579).bind fun bt582 => (some (bt582.1, bt582.2))) = some (r1, r2) := H
    have A11 := Aside0.mk A110
    clear A110
    replace H := Option.bind_eq_some_iff.mp H
    obtain ⟨⟨t582, t583⟩, A120, H⟩ := H
    replace H : (some (t582, t583)) = some (r1, r2) := H
    have A12 := Aside0.mk A120
    clear A120
    simp only [Option.some.injEq, Prod.mk.injEq] at H
    obtain ⟨rfl, rfl⟩ := H
    go_enter Tryz.func99, Tryz.ntmps99
    go_wp2_with (first | ((with_reducible refine kI (f := 137) rfl ?_); refine kN (some 9) rfl rfl Tryz.func137 (by kernel_rfl) rfl #[.int .i64 a0] rfl (by (try simp only [List.map_toArray, List.map_cons, List.map_nil]); first | done | rfl | (simp only [List.length_drop, List.length_take]; rfl)) ?_; (with_reducible refine (computusref01_Of.calls a0 t550 t551 _ A4.out).mono ?_); rintro e w13 ⟨v552, rfl, ho0, hb⟩; refine ⟨_, rfl, ?_⟩; have n0_ := Aside0.mk (Kd.R_lower ho0 (kJ (by repeat (first | (with_reducible first | exact HB.out | apply kC | apply kA | apply kB) | exact HB.out)))); have n1_ := Aside0.mk (kL (by repeat (first | (with_reducible first | exact HB.out | apply kC | apply kA | apply kB) | exact HB.out)) hb); clear HB; have HO553 := n0_; have HB := n1_; clear n0_ n1_; (try clear hb); (try clear hb2); (try clear hk); (try clear hi); (try clear ho0)) | ((with_reducible refine kI (f := 137) rfl ?_); refine kN (some 11) rfl rfl Tryz.func137 (by kernel_rfl) rfl #[.int .i64 a1] rfl (by (try simp only [List.map_toArray, List.map_cons, List.map_nil]); first | done | rfl | (simp only [List.length_drop, List.length_take]; rfl)) ?_; (with_reducible refine (computusref01_Of.calls a1 t554 t555 _ A5.out).mono ?_); rintro e w14 ⟨v556, rfl, ho0, hb⟩; refine ⟨_, rfl, ?_⟩; have n0_ := Aside0.mk (Kd.R_elder' (by (with_reducible repeat (first | apply Kd.R_alloc | apply Kd.R_drewN | apply Kd.R_drew)); exact HO553.out) (Kd.R_base ho0) hb); have n1_ := Aside0.mk (Kd.R_lower (Kd.R_new' ho0 (Kd.R_lt (by (with_reducible repeat (first | apply Kd.R_alloc | apply Kd.R_drewN | apply Kd.R_drew)); exact HO553.out))) (kJ (by repeat (first | (with_reducible first | exact HB.out | apply kC | apply kA | apply kB) | exact HB.out)))); have n2_ := Aside0.mk (kL (by repeat (first | (with_reducible first | exact HB.out | apply kC | apply kA | apply kB) | exact HB.out)) hb); clear HO553; clear HB; have HO553 := n0_; have HO557 := n1_; have HB := n2_; clear n0_ n1_ n2_; (try clear hb); (try clear hb2); (try clear hk); (try clear hi); (try clear ho0)) | ((with_reducible refine kI (f := 137) rfl ?_); refine kN (some 13) rfl rfl Tryz.func137 (by kernel_rfl) rfl #[.int .i64 a0] rfl (by (try simp only [List.map_toArray, List.map_cons, List.map_nil]); first | done | rfl | (simp only [List.length_drop, List.length_take]; rfl)) ?_; (with_reducible refine (computusref01_Of.calls a0 t558 t559 _ A6.out).mono ?_); rintro e w15 ⟨v560, rfl, ho0, hb⟩; refine ⟨_, rfl, ?_⟩; have n0_ := Aside0.mk (Kd.R_elder' (by (with_reducible repeat (first | apply Kd.R_alloc | apply Kd.R_drewN | apply Kd.R_drew)); exact HO553.out) (Kd.R_base ho0) hb); have n1_ := Aside0.mk (Kd.R_elder' (by (with_reducible repeat (first | apply Kd.R_alloc | apply Kd.R_drewN | apply Kd.R_drew)); exact HO557.out) (Kd.R_base ho0) hb); have n2_ := Aside0.mk (Kd.R_lower (Kd.R_new' (Kd.R_new' ho0 (Kd.R_lt (by (with_reducible repeat (first | apply Kd.R_alloc | apply Kd.R_drewN | apply Kd.R_drew)); exact HO553.out))) (Kd.R_lt (by (with_reducible repeat (first | apply Kd.R_alloc | apply Kd.R_drewN | apply Kd.R_drew)); exact HO557.out))) (kJ (by repeat (first | (with_reducible first | exact HB.out | apply kC | apply kA | apply kB) | exact HB.out)))); have n3_ := Aside0.mk (kL (by repeat (first | (with_reducible first | exact HB.out | apply kC | apply kA | apply kB) | exact HB.out)) hb); clear HO553; clear HO557; clear HB; have HO553 := n0_; have HO557 := n1_; have HO561 := n2_; have HB := n3_; clear n0_ n1_ n2_ n3_; (try clear hb); (try clear hb2); (try clear hk); (try clear hi); (try clear ho0)) | ((with_reducible refine kI (f := 137) rfl ?_); refine kN (some 15) rfl rfl Tryz.func137 (by kernel_rfl) rfl #[.int .i64 a1] rfl (by (try simp only [List.map_toArray, List.map_cons, List.map_nil]); first | done | rfl | (simp only [List.length_drop, List.length_take]; rfl)) ?_; (with_reducible refine (computusref01_Of.calls a1 t562 t563 _ A7.out).mono ?_); rintro e w16 ⟨v564, rfl, ho0, hb⟩; refine ⟨_, rfl, ?_⟩; have n0_ := Aside0.mk (Kd.R_elder' (by (with_reducible repeat (first | apply Kd.R_alloc | apply Kd.R_drewN | apply Kd.R_drew)); exact HO553.out) (Kd.R_base ho0) hb); have n1_ := Aside0.mk (Kd.R_elder' (by (with_reducible repeat (first | apply Kd.R_alloc | apply Kd.R_drewN | apply Kd.R_drew)); exact HO557.out) (Kd.R_base ho0) hb); have n2_ := Aside0.mk (Kd.R_elder' (by (with_reducible repeat (first | apply Kd.R_alloc | apply Kd.R_drewN | apply Kd.R_drew)); exact HO561.out) (Kd.R_base ho0) hb); have n3_ := Aside0.mk (Kd.R_lower (Kd.R_new' (Kd.R_new' (Kd.R_new' ho0 (Kd.R_lt (by (with_reducible repeat (first | apply Kd.R_alloc | apply Kd.R_drewN | apply Kd.R_drew)); exact HO553.out))) (Kd.R_lt (by (with_reducible repeat (first | apply Kd.R_alloc | apply Kd.R_drewN | apply Kd.R_drew)); exact HO557.out))) (Kd.R_lt (by (with_reducible repeat (first | apply Kd.R_alloc | apply Kd.R_drewN | apply Kd.R_drew)); exact HO561.out))) (kJ (by repeat (first | (with_reducible first | exact HB.out | apply kC | apply kA | apply kB) | exact HB.out)))); have n4_ := Aside0.mk (kL (by repeat (first | (with_reducible first | exact HB.out | apply kC | apply kA | apply kB) | exact HB.out)) hb); clear HO553; clear HO557; clear HO561; clear HB; have HO553 := n0_; have HO557 := n1_; have HO561 := n2_; have HO565 := n3_; have HB := n4_; clear n0_ n1_ n2_ n3_ n4_; (try clear hb); (try clear hb2); (try clear hk); (try clear hi); (try clear ho0); obtain ⟨Ao17, co17, eo17⟩ := Kd.R_slice HO561.out; subst eo17; obtain ⟨Ao18, co18, eo18⟩ := Kd.R_slice HO565.out; subst eo18) | ((with_reducible refine kI (f := 136) rfl ?_); refine kN (some 16) rfl rfl Tryz.func136 (by kernel_rfl) rfl #[.agg #[.bool t558, .slice Ao17 t559.length co17], .agg #[.bool t562, .slice Ao18 t563.length co18]] rfl (by (try simp only [List.map_toArray, List.map_cons, List.map_nil]); first | done | rfl | (simp only [List.length_drop, List.length_take]; rfl)) ?_; (with_reducible refine (computusref01_Over.calls k t558 _ _ t559 t562 _ _ t563 t566 t567 _ ?side1 ?side2 ?side3 ?side4 A8.out).mono ?_); (case side1 => repeat (first | exact (Kd.R_reads' HO561.out).2.2 | (with_reducible refine Kd.C_alloc ?_ _) | (with_reducible refine Kd.C_drewN ?_ _) | (with_reducible refine Kd.C_drew ?_))); (case side2 => exact (Kd.R_reads' HO561.out).2.1); (case side3 => repeat (first | exact (Kd.R_reads' HO565.out).2.2 | (with_reducible refine Kd.C_alloc ?_ _) | (with_reducible refine Kd.C_drewN ?_ _) | (with_reducible refine Kd.C_drew ?_))); (case side4 => exact (Kd.R_reads' HO565.out).2.1); rintro e w19 ⟨v568, rfl, ho0, hb⟩; refine ⟨_, rfl, ?_⟩; have n0_ := Aside0.mk (Kd.R_elder' (by (with_reducible repeat (first | apply Kd.R_alloc | apply Kd.R_drewN | apply Kd.R_drew)); exact HO553.out) (Kd.R_base ho0) hb); have n1_ := Aside0.mk (Kd.R_elder' (by (with_reducible repeat (first | apply Kd.R_alloc | apply Kd.R_drewN | apply Kd.R_drew)); exact HO557.out) (Kd.R_base ho0) hb); have n2_ := Aside0.mk (Kd.R_elder' (by (with_reducible repeat (first | apply Kd.R_alloc | apply Kd.R_drewN | apply Kd.R_drew)); exact HO561.out) (Kd.R_base ho0) hb); have n3_ := Aside0.mk (Kd.R_elder' (by (with_reducible repeat (first | apply Kd.R_alloc | apply Kd.R_drewN | apply Kd.R_drew)); exact HO565.out) (Kd.R_base ho0) hb); have n4_ := Aside0.mk (Kd.R_lower (Kd.R_new' (Kd.R_new' (Kd.R_new' (Kd.R_new' ho0 (Kd.R_lt (by (with_reducible repeat (first | apply Kd.R_alloc | apply Kd.R_drewN | apply Kd.R_drew)); exact HO553.out))) (Kd.R_lt (by (with_reducible repeat (first | apply Kd.R_alloc | apply Kd.R_drewN | apply Kd.R_drew)); exact HO557.out))) (Kd.R_lt (by (with_reducible repeat (first | apply Kd.R_alloc | apply Kd.R_drewN | apply Kd.R_drew)); exact HO561.out))) (Kd.R_lt (by (with_reducible repeat (first | apply Kd.R_alloc | apply Kd.R_drewN | apply Kd.R_drew)); exact HO565.out))) (kJ (by repeat (first | (with_reducible first | exact HB.out | apply kC | apply kA | apply kB) | exact HB.out)))); have n5_ := Aside0.mk (kL (by repeat (first | (with_reducible first | exact HB.out | apply kC | apply kA | apply kB) | exact HB.out)) hb); clear HO553; clear HO557; clear HO561; clear HO565; clear HB; have HO553 := n0_; have HO557 := n1_; have HO561 := n2_; have HO565 := n3_; have HO569 := n4_; have HB := n5_; clear n0_ n1_ n2_ n3_ n4_ n5_; (try clear hb); (try clear hb2); (try clear hk); (try clear hi); (try clear ho0); obtain ⟨Ao20, co20, eo20⟩ := Kd.R_slice HO557.out; subst eo20; obtain ⟨Ao21, co21, eo21⟩ := Kd.R_slice HO569.out; subst eo21) | ((with_reducible refine kI (f := 140) rfl ?_); refine kN (some 17) rfl rfl Tryz.func140 (by kernel_rfl) rfl #[.agg #[.bool t554, .slice Ao20 t555.length co20], .agg #[.bool t566, .slice Ao21 t567.length co21]] rfl (by (try simp only [List.map_toArray, List.map_cons, List.map_nil]); first | done | rfl | (simp only [List.length_drop, List.length_take]; rfl)) ?_; (with_reducible refine (computusref01_Times.calls k t554 _ _ t555 t566 _ _ t567 t570 t571 _ ?side1 ?side2 ?side3 ?side4 A9.out).mono ?_); (case side1 => repeat (first | exact (Kd.R_reads' HO557.out).2.2 | (with_reducible refine Kd.C_alloc ?_ _) | (with_reducible refine Kd.C_drewN ?_ _) | (with_reducible refine Kd.C_drew ?_))); (case side2 => exact (Kd.R_reads' HO557.out).2.1); (case side3 => repeat (first | exact (Kd.R_reads' HO569.out).2.2 | (with_reducible refine Kd.C_alloc ?_ _) | (with_reducible refine Kd.C_drewN ?_ _) | (with_reducible refine Kd.C_drew ?_))); (case side4 => exact (Kd.R_reads' HO569.out).2.1); rintro e w22 ⟨v572, rfl, ho0, hb⟩; refine ⟨_, rfl, ?_⟩; have n0_ := Aside0.mk (Kd.R_elder' (by (with_reducible repeat (first | apply Kd.R_alloc | apply Kd.R_drewN | apply Kd.R_drew)); exact HO553.out) (Kd.R_base ho0) hb); have n1_ := Aside0.mk (Kd.R_elder' (by (with_reducible repeat (first | apply Kd.R_alloc | apply Kd.R_drewN | apply Kd.R_drew)); exact HO557.out) (Kd.R_base ho0) hb); have n2_ := Aside0.mk (Kd.R_elder' (by (with_reducible repeat (first | apply Kd.R_alloc | apply Kd.R_drewN | apply Kd.R_drew)); exact HO561.out) (Kd.R_base ho0) hb); have n3_ := Aside0.mk (Kd.R_elder' (by (with_reducible repeat (first | apply Kd.R_alloc | apply Kd.R_drewN | apply Kd.R_drew)); exact HO565.out) (Kd.R_base ho0) hb); have n4_ := Aside0.mk (Kd.R_elder' (by (with_reducible repeat (first | apply Kd.R_alloc | apply Kd.R_drewN | apply Kd.R_drew)); exact HO569.out) (Kd.R_base ho0) hb); have n5_ := Aside0.mk (Kd.R_lower (Kd.R_new' (Kd.R_new' (Kd.R_new' (Kd.R_new' (Kd.R_new' ho0 (Kd.R_lt (by (with_reducible repeat (first | apply Kd.R_alloc | apply Kd.R_drewN | apply Kd.R_drew)); exact HO553.out))) (Kd.R_lt (by (with_reducible repeat (first | apply Kd.R_alloc | apply Kd.R_drewN | apply Kd.R_drew)); exact HO557.out))) (Kd.R_lt (by (with_reducible repeat (first | apply Kd.R_alloc | apply Kd.R_drewN | apply Kd.R_drew)); exact HO561.out))) (Kd.R_lt (by (with_reducible repeat (first | apply Kd.R_alloc | apply Kd.R_drewN | apply Kd.R_drew)); exact HO565.out))) (Kd.R_lt (by (with_reducible repeat (first | apply Kd.R_alloc | apply Kd.R_drewN | apply Kd.R_drew)); exact HO569.out))) (kJ (by repeat (first | (with_reducible first | exact HB.out | apply kC | apply kA | apply kB) | exact HB.out)))); have n6_ := Aside0.mk (kL (by repeat (first | (with_reducible first | exact HB.out | apply kC | apply kA | apply kB) | exact HB.out)) hb); clear HO553; clear HO557; clear HO561; clear HO565; clear HO569; clear HB; have HO553 := n0_; have HO557 := n1_; have HO561 := n2_; have HO565 := n3_; have HO569 := n4_; have HO573 := n5_; have HB := n6_; clear n0_ n1_ n2_ n3_ n4_ n5_ n6_; (try clear hb); (try clear hb2); (try clear hk); (try clear hi); (try clear ho0); obtain ⟨Ao23, co23, eo23⟩ := Kd.R_slice HO573.out; subst eo23) | ((with_reducible refine kI (f := 139) rfl ?_); refine kN (some 18) rfl rfl Tryz.func139 (by kernel_rfl) rfl #[.agg #[.bool t570, .slice Ao23 t571.length co23]] rfl (by (try simp only [List.map_toArray, List.map_cons, List.map_nil]); first | done | rfl | (simp only [List.length_drop, List.length_take]; rfl)) ?_; (with_reducible refine (computusref01_Minus.calls k t570 (fun k_ => some k_ = (.slice Ao23 t571.length co23 : Value).ownBlock) (.slice Ao23 t571.length co23) t571 t574 t575 w _ ?side1 ?side2 A10.out).mono ?_); (case side1 => repeat (first | (with_reducible first | exact HB.out | apply kC | apply kA | apply kB) | exact HB.out)); (case side2 => exact Kd.R_tight rfl HO573.out); rintro e w24 ⟨v576, rfl, ho0, hb, hkp⟩; refine ⟨_, rfl, ?_⟩; have n0_ := Aside0.mk (Kd.R_mono (ok' := fun k_ => some k_ ≠ (.slice Ao20 t555.length co20 : Value).ownBlock ∧ some k_ ≠ (.slice Ao17 t559.length co17 : Value).ownBlock ∧ some k_ ≠ (.slice Ao18 t563.length co18 : Value).ownBlock ∧ some k_ ≠ (.slice Ao21 t567.length co21 : Value).ownBlock ∧ some k_ ≠ (v576 : Value).ownBlock) (Kd.R_keptB (HO553.out) hkp (fun k_ hk_ hs_ => (hk_.2) hs_)) (fun k_ hk_ => ⟨hk_.1.1.1.1.1.2, hk_.1.1.1.1.2, hk_.1.1.1.2, hk_.1.1.2, fun e_ => Or.elim (ho0.1 k_ e_.symm) (fun hs_ => hk_.2.1 hs_) (fun hn_ => Nat.not_le.2 hk_.2.2 hn_)⟩)); have n1_ := Aside0.mk (Kd.R_mono (ok' := fun k_ => some k_ ≠ (v552 : Value).ownBlock ∧ some k_ ≠ (.slice Ao17 t559.length co17 : Value).ownBlock ∧ some k_ ≠ (.slice Ao18 t563.length co18 : Value).ownBlock ∧ some k_ ≠ (.slice Ao21 t567.length co21 : Value).ownBlock ∧ some k_ ≠ (v576 : Value).ownBlock) (Kd.R_keptB (HO557.out) hkp (fun k_ hk_ hs_ => (hk_.2) hs_)) (fun k_ hk_ => ⟨hk_.1.1.1.1.1.2, hk_.1.1.1.1.2, hk_.1.1.1.2, hk_.1.1.2, fun e_ => Or.elim (ho0.1 k_ e_.symm) (fun hs_ => hk_.2.1 hs_) (fun hn_ => Nat.not_le.2 hk_.2.2 hn_)⟩)); have n2_ := Aside0.mk (Kd.R_mono (ok' := fun k_ => some k_ ≠ (v552 : Value).ownBlock ∧ some k_ ≠ (.slice Ao20 t555.length co20 : Value).ownBlock ∧ some k_ ≠ (.slice Ao18 t563.length co18 : Value).ownBlock ∧ some k_ ≠ (.slice Ao21 t567.length co21 : Value).ownBlock ∧ some k_ ≠ (v576 : Value).ownBlock) (Kd.R_keptB (HO561.out) hkp (fun k_ hk_ hs_ => (hk_.2) hs_)) (fun k_ hk_ => ⟨hk_.1.1.1.1.1.2, hk_.1.1.1.1.2, hk_.1.1.1.2, hk_.1.1.2, fun e_ => Or.elim (ho0.1 k_ e_.symm) (fun hs_ => hk_.2.1 hs_) (fun hn_ => Nat.not_le.2 hk_.2.2 hn_)⟩)); have n3_ := Aside0.mk (Kd.R_mono (ok' := fun k_ => some k_ ≠ (v552 : Value).ownBlock ∧ some k_ ≠ (.slice Ao20 t555.length co20 : Value).ownBlock ∧ some k_ ≠ (.slice Ao17 t559.length co17 : Value).ownBlock ∧ some k_ ≠ (.slice Ao21 t567.length co21 : Value).ownBlock ∧ some k_ ≠ (v576 : Value).ownBlock) (Kd.R_keptB (HO565.out) hkp (fun k_ hk_ hs_ => (hk_.2) hs_)) (fun k_ hk_ => ⟨hk_.1.1.1.1.1.2, hk_.1.1.1.1.2, hk_.1.1.1.2, hk_.1.1.2, fun e_ => Or.elim (ho0.1 k_ e_.symm) (fun hs_ => hk_.2.1 hs_) (fun hn_ => Nat.not_le.2 hk_.2.2 hn_)⟩)); have n4_ := Aside0.mk (Kd.R_mono (ok' := fun k_ => some k_ ≠ (v552 : Value).ownBlock ∧ some k_ ≠ (.slice Ao20 t555.length co20 : Value).ownBlock ∧ some k_ ≠ (.slice Ao17 t559.length co17 : Value).ownBlock ∧ some k_ ≠ (.slice Ao18 t563.length co18 : Value).ownBlock ∧ some k_ ≠ (v576 : Value).ownBlock) (Kd.R_keptB (HO569.out) hkp (fun k_ hk_ hs_ => (hk_.2) hs_)) (fun k_ hk_ => ⟨hk_.1.1.1.1.1.2, hk_.1.1.1.1.2, hk_.1.1.1.2, hk_.1.1.2, fun e_ => Or.elim (ho0.1 k_ e_.symm) (fun hs_ => hk_.2.1 hs_) (fun hn_ => Nat.not_le.2 hk_.2.2 hn_)⟩)); have n5_ := Aside0.mk (Kd.R_mono (ok' := fun k_ => some k_ ≠ (v552 : Value).ownBlock ∧ some k_ ≠ (.slice Ao20 t555.length co20 : Value).ownBlock ∧ some k_ ≠ (.slice Ao17 t559.length co17 : Value).ownBlock ∧ some k_ ≠ (.slice Ao18 t563.length co18 : Value).ownBlock ∧ some k_ ≠ (.slice Ao21 t567.length co21 : Value).ownBlock) ho0 (fun k_ hk_ => ⟨Or.elim hk_ (fun hs_ => fun e_ => (((HO553.out).1 k_ e_.symm).2) hs_) (fun hn_ => (Kd.fresh' (Kd.R_lt (by (with_reducible repeat (first | apply Kd.R_alloc | apply Kd.R_drewN | apply Kd.R_drew)); exact HO553.out)) k_ hn_)), Or.elim hk_ (fun hs_ => fun e_ => (((HO557.out).1 k_ e_.symm).2) hs_) (fun hn_ => (Kd.fresh' (Kd.R_lt (by (with_reducible repeat (first | apply Kd.R_alloc | apply Kd.R_drewN | apply Kd.R_drew)); exact HO557.out)) k_ hn_)), Or.elim hk_ (fun hs_ => fun e_ => (((HO561.out).1 k_ e_.symm).2) hs_) (fun hn_ => (Kd.fresh' (Kd.R_lt (by (with_reducible repeat (first | apply Kd.R_alloc | apply Kd.R_drewN | apply Kd.R_drew)); exact HO561.out)) k_ hn_)), Or.elim hk_ (fun hs_ => fun e_ => (((HO565.out).1 k_ e_.symm).2) hs_) (fun hn_ => (Kd.fresh' (Kd.R_lt (by (with_reducible repeat (first | apply Kd.R_alloc | apply Kd.R_drewN | apply Kd.R_drew)); exact HO565.out)) k_ hn_)), Or.elim hk_ (fun hs_ => fun e_ => (((HO569.out).1 k_ e_.symm).2) hs_) (fun hn_ => (Kd.fresh' (Kd.R_lt (by (with_reducible repeat (first | apply Kd.R_alloc | apply Kd.R_drewN | apply Kd.R_drew)); exact HO569.out)) k_ hn_))⟩)); have n6_ := Aside0.mk (hb); clear HO553; clear HO557; clear HO561; clear HO565; clear HO569; clear HB; clear HO573; have HO553 := n0_; have HO557 := n1_; have HO561 := n2_; have HO565 := n3_; have HO569 := n4_; have HO577 := n5_; have HB := n6_; clear n0_ n1_ n2_ n3_ n4_ n5_ n6_; (try clear hb); (try clear hkp); (try clear ho0); obtain ⟨Ao25, co25, eo25⟩ := Kd.R_slice HO553.out; subst eo25; obtain ⟨Ao26, co26, eo26⟩ := Kd.R_slice HO577.out; subst eo26) | ((with_reducible refine kI (f := 138) rfl ?_); refine kN (some 19) rfl rfl Tryz.func138 (by kernel_rfl) rfl #[.agg #[.bool t550, .slice Ao25 t551.length co25], .agg #[.bool t574, .slice Ao26 t575.length co26]] rfl (by (try simp only [List.map_toArray, List.map_cons, List.map_nil]); first | done | rfl | (simp only [List.length_drop, List.length_take]; rfl)) ?_; (with_reducible refine (computusref01_Plus.calls k t550 _ _ t551 t574 _ _ t575 t578 t579 _ ?side1 ?side2 ?side3 ?side4 A11.out).mono ?_); (case side1 => repeat (first | exact (Kd.R_reads' HO553.out).2.2 | (with_reducible refine Kd.C_alloc ?_ _) | (with_reducible refine Kd.C_drewN ?_ _) | (with_reducible refine Kd.C_drew ?_))); (case side2 => exact (Kd.R_reads' HO553.out).2.1); (case side3 => repeat (first | exact (Kd.R_reads' HO577.out).2.2 | (with_reducible refine Kd.C_alloc ?_ _) | (with_reducible refine Kd.C_drewN ?_ _) | (with_reducible refine Kd.C_drew ?_))); (case side4 => exact (Kd.R_reads' HO577.out).2.1); rintro e w27 ⟨v580, rfl, ho0, hb⟩; refine ⟨_, rfl, ?_⟩; have n0_ := Aside0.mk (Kd.R_elder' (by (with_reducible repeat (first | apply Kd.R_alloc | apply Kd.R_drewN | apply Kd.R_drew)); exact HO553.out) (Kd.R_base ho0) hb); have n1_ := Aside0.mk (Kd.R_elder' (by (with_reducible repeat (first | apply Kd.R_alloc | apply Kd.R_drewN | apply Kd.R_drew)); exact HO557.out) (Kd.R_base ho0) hb); have n2_ := Aside0.mk (Kd.R_elder' (by (with_reducible repeat (first | apply Kd.R_alloc | apply Kd.R_drewN | apply Kd.R_drew)); exact HO561.out) (Kd.R_base ho0) hb); have n3_ := Aside0.mk (Kd.R_elder' (by (with_reducible repeat (first | apply Kd.R_alloc | apply Kd.R_drewN | apply Kd.R_drew)); exact HO565.out) (Kd.R_base ho0) hb); have n4_ := Aside0.mk (Kd.R_elder' (by (with_reducible repeat (first | apply Kd.R_alloc | apply Kd.R_drewN | apply Kd.R_drew)); exact HO569.out) (Kd.R_base ho0) hb); have n5_ := Aside0.mk (Kd.R_elder' (by (with_reducible repeat (first | apply Kd.R_alloc | apply Kd.R_drewN | apply Kd.R_drew)); exact HO577.out) (Kd.R_base ho0) hb); have n6_ := Aside0.mk (Kd.R_lower (Kd.R_new' (Kd.R_new' (Kd.R_new' (Kd.R_new' (Kd.R_new' (Kd.R_new' ho0 (Kd.R_lt (by (with_reducible repeat (first | apply Kd.R_alloc | apply Kd.R_drewN | apply Kd.R_drew)); exact HO553.out))) (Kd.R_lt (by (with_reducible repeat (first | apply Kd.R_alloc | apply Kd.R_drewN | apply Kd.R_drew)); exact HO557.out))) (Kd.R_lt (by (with_reducible repeat (first | apply Kd.R_alloc | apply Kd.R_drewN | apply Kd.R_drew)); exact HO561.out))) (Kd.R_lt (by (with_reducible repeat (first | apply Kd.R_alloc | apply Kd.R_drewN | apply Kd.R_drew)); exact HO565.out))) (Kd.R_lt (by (with_reducible repeat (first | apply Kd.R_alloc | apply Kd.R_drewN | apply Kd.R_drew)); exact HO569.out))) (Kd.R_lt (by (with_reducible repeat (first | apply Kd.R_alloc | apply Kd.R_drewN | apply Kd.R_drew)); exact HO577.out))) (kJ (by repeat (first | (with_reducible first | exact HB.out | apply kC | apply kA | apply kB) | exact HB.out)))); have n7_ := Aside0.mk (kL (by repeat (first | (with_reducible first | exact HB.out | apply kC | apply kA | apply kB) | exact HB.out)) hb); clear HO553; clear HO557; clear HO561; clear HO565; clear HO569; clear HO577; clear HB; have HO553 := n0_; have HO557 := n1_; have HO561 := n2_; have HO565 := n3_; have HO569 := n4_; have HO577 := n5_; have HO581 := n6_; have HB := n7_; clear n0_ n1_ n2_ n3_ n4_ n5_ n6_ n7_; (try clear hb); (try clear hb2); (try clear hk); (try clear hi); (try clear ho0); obtain ⟨Ao28, co28, eo28⟩ := Kd.R_slice HO581.out; subst eo28) | ((with_reducible refine kI (f := 135) rfl ?_); refine kN (some 20) rfl rfl Tryz.func135 (by kernel_rfl) rfl #[.agg #[.bool t578, .slice Ao28 t579.length co28]] rfl (by (try simp only [List.map_toArray, List.map_cons, List.map_nil]); first | done | rfl | (simp only [List.length_drop, List.length_take]; rfl)) ?_; (with_reducible refine (computusref01_Small.calls k t578 _ _ t579 t582 t583 _ ?side1 ?side2 A12.out).mono ?_); (case side1 => repeat (first | exact (Kd.R_reads' HO581.out).2.2 | (with_reducible refine Kd.C_alloc ?_ _) | (with_reducible refine Kd.C_drewN ?_ _) | (with_reducible refine Kd.C_drew ?_))); (case side2 => exact (Kd.R_reads' HO581.out).2.1); rintro e w29 ⟨rfl, hb⟩; refine ⟨_, rfl, ?_⟩; have n0_ := Aside0.mk (Kd.R_below (by (with_reducible repeat (first | apply Kd.R_alloc | apply Kd.R_drewN | apply Kd.R_drew)); exact HO553.out) hb); have n1_ := Aside0.mk (Kd.R_below (by (with_reducible repeat (first | apply Kd.R_alloc | apply Kd.R_drewN | apply Kd.R_drew)); exact HO557.out) hb); have n2_ := Aside0.mk (Kd.R_below (by (with_reducible repeat (first | apply Kd.R_alloc | apply Kd.R_drewN | apply Kd.R_drew)); exact HO561.out) hb); have n3_ := Aside0.mk (Kd.R_below (by (with_reducible repeat (first | apply Kd.R_alloc | apply Kd.R_drewN | apply Kd.R_drew)); exact HO565.out) hb); have n4_ := Aside0.mk (Kd.R_below (by (with_reducible repeat (first | apply Kd.R_alloc | apply Kd.R_drewN | apply Kd.R_drew)); exact HO569.out) hb); have n5_ := Aside0.mk (Kd.R_below (by (with_reducible repeat (first | apply Kd.R_alloc | apply Kd.R_drewN | apply Kd.R_drew)); exact HO577.out) hb); have n6_ := Aside0.mk (Kd.R_below (by (with_reducible repeat (first | apply Kd.R_alloc | apply Kd.R_drewN | apply Kd.R_drew)); exact HO581.out) hb); have n7_ := Aside0.mk (kL (by repeat (first | (with_reducible first | exact HB.out | apply kC | apply kA | apply kB) | exact HB.out)) hb); clear HO553; clear HO557; clear HO561; clear HO565; clear HO569; clear HO577; clear HO581; clear HB; have HO553 := n0_; have HO557 := n1_; have HO561 := n2_; have HO565 := n3_; have HO569 := n4_; have HO577 := n5_; have HO581 := n6_; have HB := n7_; clear n0_ n1_ n2_ n3_ n4_ n5_ n6_ n7_; (try clear hb); (try clear hb2); (try clear hk); (try clear hi)))
    go_ret2
    exact ⟨by first | rfl | (simp [errW_none, errW_some] <;> rfl) | (simp [*, errW_none, errW_some] <;> rfl), by repeat (first | (with_reducible first | exact HB.out | apply kC | apply kA | apply kB) | exact HB.out)⟩
def computusref01_Split.f (k : Nat) (a0 : Int) : Option (Int × Int) := (computusref01_Div.f k a0 86400000000).bind fun bt584 => ((computusref01_Mod.f k a0 86400000000).bind fun bt586 => (some (bt584.1, bt586.1)))
theorem computusref01_Split.mono : ∀ a0 k, LeO (computusref01_Split.f k a0) (computusref01_Split.f (k + 1) a0) := by
  intro a0 k
  unfold computusref01_Split.f
  repeat' first
      | (with_reducible exact computusref01_Div.mono _ _ _)
      | (with_reducible exact computusref01_Mod.mono _ _ _)
      | (with_reducible exact LeO.refl _)
      | (with_reducible exact LeO.none _)
      | (with_reducible refine LeO.ite ?_ ?_)
      | (with_reducible refine LeO.bind ?_ (fun _ => ?_))
      | exact computusref01_Div.mono _ _ _
      | exact computusref01_Mod.mono _ _ _
      | exact LeO.none _
      | refine LeO.ite ?_ ?_
      | refine LeO.bind ?_ (fun _ => ?_)
set_option maxHeartbeats 8000000 in
set_option maxRecDepth 100000 in
theorem computusref01_Split.calls (k : Nat) (a0 : Int) (r1 : Int) (r2 : Int) (w : World) (h : computusref01_Split.f k a0 = some (r1, r2)) :
    Calls Tryz.prog 48 #[.int .i64 a0] w fun e w' => e = .returned (.tuple #[.int .i64 r1, .int .i64 r2]) ∧ Below w.heap.size w w' := by
  have HB := Aside0.mk (Below.refl w.heap.size w)
  have H : ((computusref01_Div.f k a0 86400000000).bind fun bt584 => ((computusref01_Mod.f k a0 86400000000).bind fun bt586 => (some (bt584.1, bt586.1)))) = some (r1, r2) := h
  clear h
  replace H := Option.bind_eq_some_iff.mp H
  obtain ⟨⟨t584, t585⟩, A20, H⟩ := H
  replace H : ((computusref01_Mod.f k a0 86400000000).bind fun bt586 => (some (t584, bt586.1))) = some (r1, r2) := H
  have A2 := Aside0.mk A20
  clear A20
  replace H := Option.bind_eq_some_iff.mp H
  obtain ⟨⟨t586, t587⟩, A30, H⟩ := H
  replace H : (some (t584, t586)) = some (r1, r2) := H
  have A3 := Aside0.mk A30
  clear A30
  simp only [Option.some.injEq, Prod.mk.injEq] at H
  obtain ⟨rfl, rfl⟩ := H
  go_enter Tryz.func48, Tryz.ntmps48
  go_wp2_with (first | ((with_reducible refine kI (f := 98) rfl ?_); refine kN (some 10) rfl rfl Tryz.func98 (by kernel_rfl) rfl #[.int .i64 a0, .int .i64 86400000000] rfl (by (try simp only [List.map_toArray, List.map_cons, List.map_nil]); first | done | rfl | (simp only [List.length_drop, List.length_take]; rfl)) ?_; (with_reducible refine (computusref01_Div.calls k a0 86400000000 t584 t585 _ A2.out).mono ?_); rintro e w4 ⟨rfl, hb⟩; refine ⟨_, rfl, ?_⟩; have n0_ := Aside0.mk (kL (by repeat (first | (with_reducible first | exact HB.out | apply kC | apply kA | apply kB) | exact HB.out)) hb); clear HB; have HB := n0_; clear n0_; (try clear hb); (try clear hb2); (try clear hk); (try clear hi)) | ((with_reducible refine kI (f := 99) rfl ?_); refine kN (some 15) rfl rfl Tryz.func99 (by kernel_rfl) rfl #[.int .i64 a0, .int .i64 86400000000] rfl (by (try simp only [List.map_toArray, List.map_cons, List.map_nil]); first | done | rfl | (simp only [List.length_drop, List.length_take]; rfl)) ?_; (with_reducible refine (computusref01_Mod.calls k a0 86400000000 t586 t587 _ A3.out).mono ?_); rintro e w5 ⟨rfl, hb⟩; refine ⟨_, rfl, ?_⟩; have n0_ := Aside0.mk (kL (by repeat (first | (with_reducible first | exact HB.out | apply kC | apply kA | apply kB) | exact HB.out)) hb); clear HB; have HB := n0_; clear n0_; (try clear hb); (try clear hb2); (try clear hk); (try clear hi)))
  go_ret2
  exact ⟨by first | rfl | (simp [errW_none, errW_some] <;> rfl) | (simp [*, errW_none, errW_some] <;> rfl), by repeat (first | (with_reducible first | exact HB.out | apply kC | apply kA | apply kB) | exact HB.out)⟩
def computusref15_RightStamp.f (k : Nat) (a0_0 : Int) (a0_1 : Int) : Option (Bool) := if a0_0 = 0 then ((computusref01_Split.f k a0_1).bind fun bt589 => ((computusref15_inside.f k bt589.1).bind fun t591 => (some t591))) else (if a0_0 = (-1) then (some (a0_1 == 0)) else (if a0_0 = 1 then (some (a0_1 == 0)) else (some false)))
theorem computusref15_RightStamp.mono : ∀ a0 a1 k, LeO (computusref15_RightStamp.f k a0 a1) (computusref15_RightStamp.f (k + 1) a0 a1) := by
  intro a0 a1 k
  unfold computusref15_RightStamp.f
  repeat' first
      | (with_reducible exact computusref01_Split.mono _ _)
      | (with_reducible exact computusref15_inside.mono _ _)
      | (with_reducible exact LeO.refl _)
      | (with_reducible exact LeO.none _)
      | (with_reducible refine LeO.ite ?_ ?_)
      | (with_reducible refine LeO.bind ?_ (fun _ => ?_))
      | exact computusref01_Split.mono _ _
      | exact computusref15_inside.mono _ _
      | exact LeO.none _
      | refine LeO.ite ?_ ?_
      | refine LeO.bind ?_ (fun _ => ?_)
set_option maxHeartbeats 8000000 in
set_option maxRecDepth 100000 in
theorem computusref15_RightStamp.calls (k : Nat) (a0_0 : Int) (a0_1 : Int) (r : Bool) (w : World) (h : computusref15_RightStamp.f k a0_0 a0_1 = some r) :
    Calls Tryz.prog 13 #[.agg #[.int .i64 a0_0, .int .i64 a0_1]] w fun e w' => e = .returned (.bool r) ∧ Below w.heap.size w w' := by
  have hu23 := Tryz.underlying23
  have HB := Aside0.mk (Below.refl w.heap.size w)
  have H : (if a0_0 = 0 then ((computusref01_Split.f k a0_1).bind fun bt589 => ((computusref15_inside.f k bt589.1).bind fun t591 => (some t591))) else (if a0_0 = (-1) then (some (a0_1 == 0)) else (if a0_0 = 1 then (some (a0_1 == 0)) else (some false)))) = some r := h
  clear h
  by_cases c2 : a0_0 = 0
  · rw [if_pos c2] at H
    have c2b0 : (a0_0 == 0) = true := beq_iff_eq.mpr c2
    have c2b1 : (a0_0 != 0) = false := bne_eq_false_iff_eq.mpr c2
    clear c2
    replace H := Option.bind_eq_some_iff.mp H
    obtain ⟨⟨t589, t590⟩, A30, H⟩ := H
    replace H : ((computusref15_inside.f k t589).bind fun t591 => (some t591)) = some r := H
    have A3 := Aside0.mk A30
    clear A30
    replace H := Option.bind_eq_some_iff.mp H
    obtain ⟨t591, A40, H⟩ := H
    replace H : (some t591) = some r := H
    have A4 := Aside0.mk A40
    clear A40
    obtain rfl := Option.some.inj H
    go_enter Tryz.func13, Tryz.ntmps13
    go_wp2_with (first | ((with_reducible refine gate_dst (N := 1) rfl ?_); refine box_event ?hg (N := 1) ?hd (cs := #[.int .i64 a0_0, .int .i64 a0_1]) (t := 23) ?hr ?_; (case hd => rfl); (case hg => rfl); (case hr => first | (go_simp; done) | (go_simp; rfl)); intro gb588 hg w5 hbox hb; have n0_ := Aside0.mk (kL (by repeat (first | (with_reducible first | exact HB.out | apply kC | apply kA | apply kB) | exact HB.out)) hb); have n1_ := Aside0.mk (hbox); have n2_ := Aside0.mk ((by rw [hg]; exact (kJ (by repeat (first | (with_reducible first | exact HB.out | apply kC | apply kA | apply kB) | exact HB.out))) : w.heap.size ≤ gb588)); have n3_ := Aside0.mk ((by rw [hg]; exact (kJ (by repeat (first | (with_reducible first | exact HB.out | apply kC | apply kA | apply kB) | exact HB.out))) : w.heap.size ≤ gb588)); clear HB; have HB := n0_; have BK588 := n1_; have GW588 := n2_; have GE588 := n3_; clear n0_ n1_ n2_ n3_; clear hb hbox hg; have hcz6_0 : w5.cell? ⟨gb588, 0, none⟩ = some (.int .i64 a0_0) := (kH BK588.out 0).trans rfl; have hcz6_1 : w5.cell? ⟨gb588, 1, none⟩ = some (.int .i64 a0_1) := (kH BK588.out 1).trans rfl; have hfz6_0 := kK BK588.out 0; have hfz6_1 := kK BK588.out 1) | ((with_reducible refine kI (f := 48) rfl ?_); refine kN (some 11) rfl rfl Tryz.func48 (by kernel_rfl) rfl #[.int .i64 a0_1] rfl (by (try simp only [List.map_toArray, List.map_cons, List.map_nil]); first | done | rfl | (simp only [List.length_drop, List.length_take]; rfl)) ?_; (with_reducible refine (computusref01_Split.calls k a0_1 t589 t590 _ A3.out).mono ?_); rintro e w7 ⟨rfl, hb⟩; refine ⟨_, rfl, ?_⟩; have n0_ := Aside0.mk (kM (g := gb588) (o := .cells #[.int .i64 a0_0, .int .i64 a0_1] 23 (0, 0)) (by (with_reducible repeat (first | refine kE ?_ _ | refine kG ?_ | refine kF ?_ _)); exact BK588.out) hb); have n1_ := Aside0.mk (kL (by repeat (first | (with_reducible first | exact HB.out | apply kC | apply kA | apply kB | refine kD ?_ GE588.out) | exact HB.out)) hb); clear BK588; clear HB; have BK588 := n0_; have HB := n1_; clear n0_ n1_; (try clear hb); (try clear hb2); (try clear hk); (try clear hi)) | ((with_reducible refine kI (f := 49) rfl ?_); refine kN (some 15) rfl rfl Tryz.func49 (by kernel_rfl) rfl #[.int .i64 t589] rfl (by (try simp only [List.map_toArray, List.map_cons, List.map_nil]); first | done | rfl | (simp only [List.length_drop, List.length_take]; rfl)) ?_; (with_reducible refine (computusref15_inside.calls k t589 t591 _ A4.out).mono ?_); rintro e w' ⟨rfl, ⟨nd, rfl⟩⟩; refine ⟨_, rfl, ?_⟩))
    go_ret
    exact ⟨by first | rfl | (simp [errW_none, errW_some] <;> rfl) | (simp [*, errW_none, errW_some] <;> rfl), by repeat (first | (with_reducible first | exact HB.out | apply kC | apply kA | apply kB | refine kD ?_ GE588.out) | exact HB.out)⟩
  · rw [if_neg c2] at H
    have c2b0 : (a0_0 == 0) = false := beq_eq_false_iff_ne.mpr c2
    have c2b1 : (a0_0 != 0) = true := bne_iff_ne.mpr c2
    by_cases c8 : a0_0 = (-1)
    · rw [if_pos c8] at H
      have c8b0 : (a0_0 == (-1)) = true := beq_iff_eq.mpr c8
      have c8b1 : (a0_0 != (-1)) = false := bne_eq_false_iff_eq.mpr c8
      clear c8
      obtain rfl := Option.some.inj H
      go_enter Tryz.func13, Tryz.ntmps13
      go_wp2_with (first | ((with_reducible refine gate_dst (N := 1) rfl ?_); refine box_event ?hg (N := 1) ?hd (cs := #[.int .i64 a0_0, .int .i64 a0_1]) (t := 23) ?hr ?_; (case hd => rfl); (case hg => rfl); (case hr => first | (go_simp; done) | (go_simp; rfl)); intro gb588 hg w9 hbox hb; have n0_ := Aside0.mk (kL (by repeat (first | (with_reducible first | exact HB.out | apply kC | apply kA | apply kB) | exact HB.out)) hb); have n1_ := Aside0.mk (hbox); have n2_ := Aside0.mk ((by rw [hg]; exact (kJ (by repeat (first | (with_reducible first | exact HB.out | apply kC | apply kA | apply kB) | exact HB.out))) : w.heap.size ≤ gb588)); have n3_ := Aside0.mk ((by rw [hg]; exact (kJ (by repeat (first | (with_reducible first | exact HB.out | apply kC | apply kA | apply kB) | exact HB.out))) : w.heap.size ≤ gb588)); clear HB; have HB := n0_; have BK588 := n1_; have GW588 := n2_; have GE588 := n3_; clear n0_ n1_ n2_ n3_; clear hb hbox hg; have hcz10_0 : w9.cell? ⟨gb588, 0, none⟩ = some (.int .i64 a0_0) := (kH BK588.out 0).trans rfl; have hcz10_1 : w9.cell? ⟨gb588, 1, none⟩ = some (.int .i64 a0_1) := (kH BK588.out 1).trans rfl; have hfz10_0 := kK BK588.out 0; have hfz10_1 := kK BK588.out 1))
      go_ret
      exact ⟨by first | rfl | (simp [errW_none, errW_some] <;> rfl) | (simp [*, errW_none, errW_some] <;> rfl), by repeat (first | (with_reducible first | exact HB.out | apply kC | apply kA | apply kB | refine kD ?_ GE588.out) | exact HB.out)⟩
    · rw [if_neg c8] at H
      have c8b0 : (a0_0 == (-1)) = false := beq_eq_false_iff_ne.mpr c8
      have c8b1 : (a0_0 != (-1)) = true := bne_iff_ne.mpr c8
      by_cases c11 : a0_0 = 1
      · rw [if_pos c11] at H
        have c11b0 : (a0_0 == 1) = true := beq_iff_eq.mpr c11
        have c11b1 : (a0_0 != 1) = false := bne_eq_false_iff_eq.mpr c11
        clear c11
        obtain rfl := Option.some.inj H
        go_enter Tryz.func13, Tryz.ntmps13
        go_wp2_with (first | ((with_reducible refine gate_dst (N := 1) rfl ?_); refine box_event ?hg (N := 1) ?hd (cs := #[.int .i64 a0_0, .int .i64 a0_1]) (t := 23) ?hr ?_; (case hd => rfl); (case hg => rfl); (case hr => first | (go_simp; done) | (go_simp; rfl)); intro gb588 hg w12 hbox hb; have n0_ := Aside0.mk (kL (by repeat (first | (with_reducible first | exact HB.out | apply kC | apply kA | apply kB) | exact HB.out)) hb); have n1_ := Aside0.mk (hbox); have n2_ := Aside0.mk ((by rw [hg]; exact (kJ (by repeat (first | (with_reducible first | exact HB.out | apply kC | apply kA | apply kB) | exact HB.out))) : w.heap.size ≤ gb588)); have n3_ := Aside0.mk ((by rw [hg]; exact (kJ (by repeat (first | (with_reducible first | exact HB.out | apply kC | apply kA | apply kB) | exact HB.out))) : w.heap.size ≤ gb588)); clear HB; have HB := n0_; have BK588 := n1_; have GW588 := n2_; have GE588 := n3_; clear n0_ n1_ n2_ n3_; clear hb hbox hg; have hcz13_0 : w12.cell? ⟨gb588, 0, none⟩ = some (.int .i64 a0_0) := (kH BK588.out 0).trans rfl; have hcz13_1 : w12.cell? ⟨gb588, 1, none⟩ = some (.int .i64 a0_1) := (kH BK588.out 1).trans rfl; have hfz13_0 := kK BK588.out 0; have hfz13_1 := kK BK588.out 1))
        go_ret
        exact ⟨by first | rfl | (simp [errW_none, errW_some] <;> rfl) | (simp [*, errW_none, errW_some] <;> rfl), by repeat (first | (with_reducible first | exact HB.out | apply kC | apply kA | apply kB | refine kD ?_ GE588.out) | exact HB.out)⟩
      · rw [if_neg c11] at H
        have c11b0 : (a0_0 == 1) = false := beq_eq_false_iff_ne.mpr c11
        have c11b1 : (a0_0 != 1) = true := bne_iff_ne.mpr c11
        obtain rfl := Option.some.inj H
        go_enter Tryz.func13, Tryz.ntmps13
        go_wp2_with (first | ((with_reducible refine gate_dst (N := 1) rfl ?_); refine box_event ?hg (N := 1) ?hd (cs := #[.int .i64 a0_0, .int .i64 a0_1]) (t := 23) ?hr ?_; (case hd => rfl); (case hg => rfl); (case hr => first | (go_simp; done) | (go_simp; rfl)); intro gb588 hg w14 hbox hb; have n0_ := Aside0.mk (kL (by repeat (first | (with_reducible first | exact HB.out | apply kC | apply kA | apply kB) | exact HB.out)) hb); have n1_ := Aside0.mk (hbox); have n2_ := Aside0.mk ((by rw [hg]; exact (kJ (by repeat (first | (with_reducible first | exact HB.out | apply kC | apply kA | apply kB) | exact HB.out))) : w.heap.size ≤ gb588)); have n3_ := Aside0.mk ((by rw [hg]; exact (kJ (by repeat (first | (with_reducible first | exact HB.out | apply kC | apply kA | apply kB) | exact HB.out))) : w.heap.size ≤ gb588)); clear HB; have HB := n0_; have BK588 := n1_; have GW588 := n2_; have GE588 := n3_; clear n0_ n1_ n2_ n3_; clear hb hbox hg; have hcz15_0 : w14.cell? ⟨gb588, 0, none⟩ = some (.int .i64 a0_0) := (kH BK588.out 0).trans rfl; have hcz15_1 : w14.cell? ⟨gb588, 1, none⟩ = some (.int .i64 a0_1) := (kH BK588.out 1).trans rfl; have hfz15_0 := kK BK588.out 0; have hfz15_1 := kK BK588.out 1))
        go_ret
        exact ⟨by first | rfl | (simp [errW_none, errW_some] <;> rfl) | (simp [*, errW_none, errW_some] <;> rfl), by repeat (first | (with_reducible first | exact HB.out | apply kC | apply kA | apply kB | refine kD ?_ GE588.out) | exact HB.out)⟩
noncomputable def computusref15_RightStamp.con (k : Nat) : Con
  | [.agg [.int .i64 a0_0, .int .i64 a0_1]] => some ((computusref15_RightStamp.f k a0_0 a0_1).isSome, .bool (gd (computusref15_RightStamp.f k a0_0 a0_1)))
  | _ => none
set_option maxRecDepth 100000 in
theorem computusref15_RightStamp.cok (k : Nat) : COk Tryz.prog 13 (computusref15_RightStamp.con k) := by
  intro args p v hc hp w A hA
  unfold computusref15_RightStamp.con at hc
  split at hc
  · rename_i a0_0 a0_1
    simp only [Option.some.injEq, Prod.mk.injEq] at hc
    obtain ⟨rfl, rfl⟩ := hc
    rcases hf : computusref15_RightStamp.f k a0_0 a0_1 with _ | r
    · rw [hf] at hp; cases hp
    obtain rfl : A = [.agg #[.int .i64 a0_0, .int .i64 a0_1]] := by simpa [rl_cons, rl_nil, rv_int, rv_bool, rv_str, rv_agg, rv_fn] using hA
    exact gives_of_calls (fn := Tryz.f13) Tryz.func13 (by kernel_rfl) (by kernel_rfl) (computusref15_RightStamp.calls _ _ _ _ w hf) (fun _ => by simp [gd_some, rl_cons, rl_nil, rv_int, rv_bool, rv_str, rv_agg, rv_tup]) (fun _ h => h)
  · cases hc
theorem computusref15_RightStamp.up {k : Nat} {a0_0 : Int} {a0_1 : Int} {r : Bool} (h : computusref15_RightStamp.f k a0_0 a0_1 = some r) : computusref15_RightStamp.f (k + 1) a0_0 a0_1 = some r := computusref15_RightStamp.mono a0_0 a0_1 k _ h
theorem computusref15_RightStamp.le {a0_0 : Int} {a0_1 : Int} {r : Bool} {k n : Nat} (h : computusref15_RightStamp.f k a0_0 a0_1 = some r) (hk : k ≤ n) : computusref15_RightStamp.f n a0_0 a0_1 = some r := by
  induction hk with
  | refl => exact h
  | step _ ih => exact computusref15_RightStamp.up ih
end Go.Proofs.YthkmckmfgglafaaGreat.P
namespace Go.Proofs.YthkmckmfgglafaaGreat.P
open Go.RowKit Go.Proofs.YthkmckmfgglafaaGreatW.PrintWords Go.Proofs.YthkmckmfgglafaaGreatW.PrintLast Go.Proofs.YthkmckmfgglafaaGreatW.PrintMore
open Go.Proofs.YthkmckmfgglafaaGreat.A
attribute [local go_sem] max2_int min2_int max_two min_two max_three min_three max_four min_four   -- for this text's walks alone
set_option linter.unusedVariables false
set_option linter.unusedSimpArgs false
def computusref15_order.j0 : Nat → Int → Int → Int → Int → Bool → Option (Int)
  | 0, _, _, _, _, _ => none
  | k + 1, x0, x1, x2, x3, x21 => if x21 = true then (some (-1)) else (if x0 > x1 then (some 1) else (if x2 > x3 then (some 1) else (some 0)))
def computusref15_order.f (k : Nat) (a0 : Int) (a1 : Int) (a2 : Int) (a3 : Int) : Option (Int) := if a0 < a1 then (computusref15_order.j0 k a0 a1 a2 a3 true) else (if a0 = a1 then (computusref15_order.j0 k a0 a1 a2 a3 (decide (a2 < a3))) else (computusref15_order.j0 k a0 a1 a2 a3 false))
theorem computusref15_order.mono_l : ∀ k, (∀ y0 y1 y2 y3 y4, LeO (computusref15_order.j0 k y0 y1 y2 y3 y4) (computusref15_order.j0 (k + 1) y0 y1 y2 y3 y4))
  | 0 => fun _ _ _ _ _ r h => by simp [computusref15_order.j0] at h
  | k + 1 => by
    have ih0 := computusref15_order.mono_l k
    · intro y0 y1 y2 y3 y4
      unfold computusref15_order.j0
      repeat' first
      | (with_reducible exact ih0 _ _ _ _ _)
      | (with_reducible exact LeO.refl _)
      | (with_reducible exact LeO.none _)
      | (with_reducible refine LeO.ite ?_ ?_)
      | (with_reducible refine LeO.bind ?_ (fun _ => ?_))
      | exact ih0 _ _ _ _ _
      | exact LeO.none _
      | refine LeO.ite ?_ ?_
      | refine LeO.bind ?_ (fun _ => ?_)
theorem computusref15_order.mono : ∀ a0 a1 a2 a3 k, LeO (computusref15_order.f k a0 a1 a2 a3) (computusref15_order.f (k + 1) a0 a1 a2 a3) := by
  intro a0 a1 a2 a3 k
  have ih0 := computusref15_order.mono_l k
  unfold computusref15_order.f
  repeat' first
      | (with_reducible exact ih0 _ _ _ _ _)
      | (with_reducible exact LeO.refl _)
      | (with_reducible exact LeO.none _)
      | (with_reducible refine LeO.ite ?_ ?_)
      | (with_reducible refine LeO.bind ?_ (fun _ => ?_))
      | exact ih0 _ _ _ _ _
      | exact LeO.none _
      | refine LeO.ite ?_ ?_
      | refine LeO.bind ?_ (fun _ => ?_)
set_option maxHeartbeats 8000000 in
set_option maxRecDepth 100000 in
theorem computusref15_order.calls (k : Nat) (a0 : Int) (a1 : Int) (a2 : Int) (a3 : Int) (r : Int) (w : World) (h : computusref15_order.f k a0 a1 a2 a3 = some r) :
    Calls Tryz.prog 42 #[.int .i64 a0, .int .i64 a1, .int .i64 a2, .int .i64 a3] w fun e w' => e = .returned (.int .i64 r) ∧ Drawn0 w w' := by
  have H : (if a0 < a1 then (computusref15_order.j0 k a0 a1 a2 a3 true) else (if a0 = a1 then (computusref15_order.j0 k a0 a1 a2 a3 (decide (a2 < a3))) else (computusref15_order.j0 k a0 a1 a2 a3 false))) = some r := h
  clear h
  have HC5 := Aside0.mk H
  clear H
  go_enter Tryz.func42, Tryz.ntmps42
  go_upto_region 1 with (fail)
  go_cut [21] (fun v21 wc => ∃ (kq : Nat) (x21_4 : Bool), v21 = .bool x21_4 ∧ Aside0 (computusref15_order.j0 kq a0 a1 a2 a3 x21_4 = some r) ∧ Aside0 (kq ≤ k) ∧ Drawn0 w wc)
  case first =>
    have H := HC5.out
    clear HC5
    by_cases c6 : a0 < a1
    · rw [if_pos c6] at H
      have c6b0 : decide (a0 < a1) = true := decide_eq_true c6
      clear c6
      (first | rw [c6b0] | (simp only [kO, kP]; rw [c6b0]) | skip)
      have H' := Aside0.mk H
      clear H
      go_wp2
      go_meet
      case rel => exact ⟨_, (true), (by first | rfl | (simp; done) | (simp [*]; done)), H', ⟨by first | omega | exact Nat.le_refl _⟩, by repeat (first | exact Drawn0.refl _ | apply Drawn0.step)⟩
    · rw [if_neg c6] at H
      have c6b0 : decide (a0 < a1) = false := decide_eq_false c6
      clear c6
      (first | rw [c6b0] | (simp only [kO, kP]; rw [c6b0]) | skip)
      by_cases c7 : a0 = a1
      · rw [if_pos c7] at H
        have c7b0 : (a0 == a1) = true := beq_iff_eq.mpr c7
        have c7b1 : (a0 != a1) = false := bne_eq_false_iff_eq.mpr c7
        clear c7
        have H' := Aside0.mk H
        clear H
        go_wp2
        go_meet
        case rel => exact ⟨_, (decide (a2 < a3)), (by first | rfl | (simp; done) | (simp [*]; done)), H', ⟨by first | omega | exact Nat.le_refl _⟩, by repeat (first | exact Drawn0.refl _ | apply Drawn0.step)⟩
      · rw [if_neg c7] at H
        have c7b0 : (a0 == a1) = false := beq_eq_false_iff_ne.mpr c7
        have c7b1 : (a0 != a1) = true := bne_iff_ne.mpr c7
        have H' := Aside0.mk H
        clear H
        go_wp2
        go_meet
        case rel => exact ⟨_, (false), (by first | rfl | (simp; done) | (simp [*]; done)), H', ⟨by first | omega | exact Nat.le_refl _⟩, by repeat (first | exact Drawn0.refl _ | apply Drawn0.step)⟩
  case rest =>
    clear HC5
    try clear p2
    try clear c4
    try clear c6
    try clear c6b0
    try clear c7
    try clear c7b0
    try clear c7b1
    obtain ⟨kq, x21_4, rfl, HA, HJ4, ⟨mc4, rfl⟩⟩ := hcut
    cases kq with
    | zero => exact absurd HA.out (by simp [computusref15_order.j0])
    | succ kj4 =>
      have H := HA.out
      clear HA
      simp only [computusref15_order.j0] at H
      by_cases c8 : x21_4 = true
      · subst c8
        have H1 : (some (-1)) = some r := by rw [if_pos rfl] at H; exact H
        clear H
        have H := H1
        clear H1
        obtain rfl := Option.some.inj H
        go_wp2
        go_ret
        exact ⟨by first | rfl | (simp; done) | (simp [*]; done), by repeat (first | exact Drawn0.refl _ | apply Drawn0.step)⟩
      · replace c8 := Bool.eq_false_iff.mpr c8
        subst c8
        have H1 : (if a0 > a1 then (some 1) else (if a2 > a3 then (some 1) else (some 0))) = some r := by rw [if_neg (show ¬ (false = true) by decide)] at H; exact H
        clear H
        have H := H1
        clear H1
        by_cases c9 : a0 > a1
        · rw [if_pos c9] at H
          have c9b0 : decide (a1 < a0) = true := decide_eq_true c9
          clear c9
          obtain rfl := Option.some.inj H
          go_wp2
          go_ret
          exact ⟨by first | rfl | (simp; done) | (simp [*]; done), by repeat (first | exact Drawn0.refl _ | apply Drawn0.step)⟩
        · rw [if_neg c9] at H
          have c9b0 : decide (a1 < a0) = false := decide_eq_false c9
          clear c9
          by_cases c10 : a2 > a3
          · rw [if_pos c10] at H
            have c10b0 : decide (a3 < a2) = true := decide_eq_true c10
            clear c10
            obtain rfl := Option.some.inj H
            go_wp2
            go_ret
            exact ⟨by first | rfl | (simp; done) | (simp [*]; done), by repeat (first | exact Drawn0.refl _ | apply Drawn0.step)⟩
          · rw [if_neg c10] at H
            have c10b0 : decide (a3 < a2) = false := decide_eq_false c10
            clear c10
            obtain rfl := Option.some.inj H
            go_wp2
            go_ret
            exact ⟨by first | rfl | (simp; done) | (simp [*]; done), by repeat (first | exact Drawn0.refl _ | apply Drawn0.step)⟩
noncomputable def computusref15_order.con (k : Nat) : Con
  | [.int .i64 a0, .int .i64 a1, .int .i64 a2, .int .i64 a3] => some ((computusref15_order.f k a0 a1 a2 a3).isSome, .int .i64 (gd (computusref15_order.f k a0 a1 a2 a3)))
  | _ => none
set_option maxRecDepth 100000 in
theorem computusref15_order.cok (k : Nat) : COk Tryz.prog 42 (computusref15_order.con k) := by
  intro args p v hc hp w A hA
  unfold computusref15_order.con at hc
  split at hc
  · rename_i a0 a1 a2 a3
    simp only [Option.some.injEq, Prod.mk.injEq] at hc
    obtain ⟨rfl, rfl⟩ := hc
    rcases hf : computusref15_order.f k a0 a1 a2 a3 with _ | r
    · rw [hf] at hp; cases hp
    obtain rfl : A = [.int .i64 a0, .int .i64 a1, .int .i64 a2, .int .i64 a3] := by simpa [rl_cons, rl_nil, rv_int, rv_bool, rv_str, rv_agg, rv_fn] using hA
    exact gives_of_calls (fn := Tryz.f42) Tryz.func42 (by kernel_rfl) (by kernel_rfl) (computusref15_order.calls _ _ _ _ _ _ w hf) (fun _ => by simp [gd_some, rl_cons, rl_nil, rv_int, rv_bool, rv_str, rv_agg, rv_tup]) (fun _ h => h.below)
  · cases hc
def computusref15_CmpStamp.f (k : Nat) (a0_0 : Int) (a0_1 : Int) (a1_0 : Int) (a1_1 : Int) : Option (Int) := (computusref15_RightStamp.f k a0_0 a0_1).bind fun t594 => (if t594 = true then ((computusref15_RightStamp.f k a1_0 a1_1).bind fun t595 => (if t595 = true then ((computusref15_order.f k a0_0 a1_0 a0_1 a1_1).bind fun t596 => (some t596)) else (some 0))) else (some 0))
theorem computusref15_CmpStamp.mono : ∀ a0 a1 a2 a3 k, LeO (computusref15_CmpStamp.f k a0 a1 a2 a3) (computusref15_CmpStamp.f (k + 1) a0 a1 a2 a3) := by
  intro a0 a1 a2 a3 k
  unfold computusref15_CmpStamp.f
  repeat' first
      | (with_reducible exact computusref15_RightStamp.mono _ _ _)
      | (with_reducible exact computusref15_order.mono _ _ _ _ _)
      | (with_reducible exact LeO.refl _)
      | (with_reducible exact LeO.none _)
      | (with_reducible refine LeO.ite ?_ ?_)
      | (with_reducible refine LeO.bind ?_ (fun _ => ?_))
      | exact computusref15_RightStamp.mono _ _ _
      | exact computusref15_order.mono _ _ _ _ _
      | exact LeO.none _
      | refine LeO.ite ?_ ?_
      | refine LeO.bind ?_ (fun _ => ?_)
set_option maxRecDepth 100000 in
theorem computusref15_CmpStamp.vc (k : Nat) (a0_0 : Int) (a0_1 : Int) (a1_0 : Int) (a1_1 : Int) (K : AV → Prop) : afv PA Tryz.prog (tab [(13, computusref15_RightStamp.con k), (42, computusref15_order.con k)]) noLoops 2 11 [.agg [.int .i64 a0_0, .int .i64 a0_1], .agg [.int .i64 a1_0, .int .i64 a1_1]] K = (brc (Option.isSome (computusref15_RightStamp.f k a0_0 a0_1)) (∀ (m0 : Bool), m0 = gd (computusref15_RightStamp.f k a0_0 a0_1) → brc (!m0) (K (AV.int IntKind.i64 0)) (brc (Option.isSome (computusref15_RightStamp.f k a1_0 a1_1)) (∀ (m1 : Bool), m1 = gd (computusref15_RightStamp.f k a1_0 a1_1) → brc (!m1) (K (AV.int IntKind.i64 0)) (brc (Option.isSome (computusref15_order.f k a0_0 a1_0 a0_1 a1_1)) (∀ (m2 : Int), m2 = gd (computusref15_order.f k a0_0 a1_0 a0_1 a1_1) → K (AV.int IntKind.i64 m2)) False)) False)) False) := by kernel_rfl
set_option maxHeartbeats 1000000 in
set_option maxRecDepth 100000 in
theorem computusref15_CmpStamp.calls (k : Nat) (a0_0 : Int) (a0_1 : Int) (a1_0 : Int) (a1_1 : Int) (r : Int) (w : World) (h : computusref15_CmpStamp.f k a0_0 a0_1 a1_0 a1_1 = some r) :
    Calls Tryz.prog 11 #[.agg #[.int .i64 a0_0, .int .i64 a0_1], .agg #[.int .i64 a1_0, .int .i64 a1_1]] w fun e w' => e = .returned (.int .i64 r) ∧ Below w.heap.size w w' := by
  refine calls_of_vc (A := [.agg #[.int .i64 a0_0, .int .i64 a0_1], .agg #[.int .i64 a1_0, .int .i64 a1_1]]) (v := .int .i64 r) (tab_cons (computusref15_RightStamp.cok k) (tab_cons (computusref15_order.cok k) (tab_nil))) ((computusref15_CmpStamp.vc k a0_0 a0_1 a1_0 a1_1 _).mpr ?_) (by simp [rl_cons, rl_nil, rv_int, rv_bool, rv_str, rv_agg, rv_fn]) (fun ρ V' hV => by simpa [rl_cons, rl_nil, rv_int, rv_bool, rv_str, rv_agg, rv_tup] using hV)
  unfold computusref15_CmpStamp.f at h
  (try simp only [bne, Option.bind_eq_some_iff, ite_some_iff] at h)
  (try simp only [bne, brc_iff, wrap_i64])
  first
    | grind (splits := 60) [gd_some]
    | ((repeat' (first | (have or_ : Or _ _ := h; clear or_; rcases h with h | h) | (have or_ : Exists _ := h; clear or_; obtain ⟨_, h⟩ := h) | (have or_ : And _ _ := h; clear or_; obtain ⟨hq_, h⟩ := h))) <;> (try simp only [Option.some.injEq, Prod.mk.injEq, reduceCtorEq] at h) <;> (try subst_vars) <;> first | (simp_all [gd_some] <;> (try omega) <;> done) | grind (splits := 60) [gd_some])
    | (intros; subst_vars; simp_all [gd_some]; done)
noncomputable def computusref15_CmpStamp.con (k : Nat) : Con
  | [.agg [.int .i64 a0_0, .int .i64 a0_1], .agg [.int .i64 a1_0, .int .i64 a1_1]] => some ((computusref15_CmpStamp.f k a0_0 a0_1 a1_0 a1_1).isSome, .int .i64 (gd (computusref15_CmpStamp.f k a0_0 a0_1 a1_0 a1_1)))
  | _ => none
set_option maxRecDepth 100000 in
theorem computusref15_CmpStamp.cok (k : Nat) : COk Tryz.prog 11 (computusref15_CmpStamp.con k) := by
  intro args p v hc hp w A hA
  unfold computusref15_CmpStamp.con at hc
  split at hc
  · rename_i a0_0 a0_1 a1_0 a1_1
    simp only [Option.some.injEq, Prod.mk.injEq] at hc
    obtain ⟨rfl, rfl⟩ := hc
    rcases hf : computusref15_CmpStamp.f k a0_0 a0_1 a1_0 a1_1 with _ | r
    · rw [hf] at hp; cases hp
    obtain rfl : A = [.agg #[.int .i64 a0_0, .int .i64 a0_1], .agg #[.int .i64 a1_0, .int .i64 a1_1]] := by simpa [rl_cons, rl_nil, rv_int, rv_bool, rv_str, rv_agg, rv_fn] using hA
    exact gives_of_calls (fn := Tryz.f11) Tryz.func11 (by kernel_rfl) (by kernel_rfl) (computusref15_CmpStamp.calls _ _ _ _ _ _ w hf) (fun _ => by simp [gd_some, rl_cons, rl_nil, rv_int, rv_bool, rv_str, rv_agg, rv_tup]) (fun _ h => h)
  · cases hc
theorem computusref15_CmpStamp.up {k : Nat} {a0_0 : Int} {a0_1 : Int} {a1_0 : Int} {a1_1 : Int} {r : Int} (h : computusref15_CmpStamp.f k a0_0 a0_1 a1_0 a1_1 = some r) : computusref15_CmpStamp.f (k + 1) a0_0 a0_1 a1_0 a1_1 = some r := computusref15_CmpStamp.mono a0_0 a0_1 a1_0 a1_1 k _ h
theorem computusref15_CmpStamp.le {a0_0 : Int} {a0_1 : Int} {a1_0 : Int} {a1_1 : Int} {r : Int} {k n : Nat} (h : computusref15_CmpStamp.f k a0_0 a0_1 a1_0 a1_1 = some r) (hk : k ≤ n) : computusref15_CmpStamp.f n a0_0 a0_1 a1_0 a1_1 = some r := by
  induction hk with
  | refl => exact h
  | step _ ih => exact computusref15_CmpStamp.up ih
-- NOT PRINTED: function 3 (computuslaw20_OpsLess)
end Go.Proofs.YthkmckmfgglafaaGreat.P
namespace Go.Proofs.YthkmckmfgglafaaGreat.P
open Go.RowKit Go.Proofs.YthkmckmfgglafaaGreatW.PrintWords Go.Proofs.YthkmckmfgglafaaGreatW.PrintLast Go.Proofs.YthkmckmfgglafaaGreatW.PrintMore
open Go.Proofs.YthkmckmfgglafaaGreat.A
attribute [local go_sem] max2_int min2_int max_two min_two max_three min_three max_four min_four   -- for this text's walks alone
set_option linter.unusedVariables false
set_option linter.unusedSimpArgs false
mutual
def computusref20_Overlaps.j0 : Nat → Bool → Int → Int → Int → Int → Int → Int → Int → Int → Option (Bool × Int)
  | 0, _, _, _, _, _, _, _, _, _ => none
  | k + 1, x28, x1052000, x1052001, x1053000, x1053001, x1054000, x1054001, x1055000, x1055001 => if x28 = true then (some (false, 1)) else ((computusref15_CmpStamp.f k x1052000 x1052001 x1053000 x1053001).bind fun t1059 => (if t1059 > 0 then (computusref20_Overlaps.j1 k x1053000 x1053001 x1052000 x1052001 x1054000 x1054001 x1055000 x1055001) else (computusref20_Overlaps.j1 k x1052000 x1052001 x1053000 x1053001 x1054000 x1054001 x1055000 x1055001)))
def computusref20_Overlaps.j1 : Nat → Int → Int → Int → Int → Int → Int → Int → Int → Option (Bool × Int)
  | 0, _, _, _, _, _, _, _, _ => none
  | k + 1, x1052000, x1052001, x1053000, x1053001, x1054000, x1054001, x1055000, x1055001 => (computusref15_CmpStamp.f k x1054000 x1054001 x1055000 x1055001).bind fun t1060 => (if t1060 > 0 then (computusref20_Overlaps.j2 k x1052000 x1052001 x1053000 x1053001 x1055000 x1055001 x1054000 x1054001) else (computusref20_Overlaps.j2 k x1052000 x1052001 x1053000 x1053001 x1054000 x1054001 x1055000 x1055001))
def computusref20_Overlaps.j2 : Nat → Int → Int → Int → Int → Int → Int → Int → Int → Option (Bool × Int)
  | 0, _, _, _, _, _, _, _, _ => none
  | k + 1, x1052000, x1052001, x1053000, x1053001, x1054000, x1054001, x1055000, x1055001 => (computusref15_CmpStamp.f k x1052000 x1052001 x1054000 x1054001).bind fun t1061 => (if t1061 = 0 then (some (true, 0)) else (if t1061 < 0 then ((computusref15_CmpStamp.f k x1054000 x1054001 x1053000 x1053001).bind fun t1062 => (some (decide (t1062 < 0), 0))) else ((computusref15_CmpStamp.f k x1052000 x1052001 x1055000 x1055001).bind fun t1063 => (some (decide (t1063 < 0), 0)))))
end
def computusref20_Overlaps.f (k : Nat) (a0_0 : Int) (a0_1 : Int) (a1_0 : Int) (a1_1 : Int) (a2_0 : Int) (a2_1 : Int) (a3_0 : Int) (a3_1 : Int) : Option (Bool × Int) := (computusref15_RightStamp.f k a0_0 a0_1).bind fun t1055 => (if t1055 = true then ((computusref15_RightStamp.f k a1_0 a1_1).bind fun t1056 => (if t1056 = true then ((computusref15_RightStamp.f k a2_0 a2_1).bind fun t1057 => (if t1057 = true then ((computusref15_RightStamp.f k a3_0 a3_1).bind fun t1058 => (computusref20_Overlaps.j0 k (!t1058) a0_0 a0_1 a1_0 a1_1 a2_0 a2_1 a3_0 a3_1)) else (computusref20_Overlaps.j0 k true a0_0 a0_1 a1_0 a1_1 a2_0 a2_1 a3_0 a3_1))) else (computusref20_Overlaps.j0 k true a0_0 a0_1 a1_0 a1_1 a2_0 a2_1 a3_0 a3_1))) else (computusref20_Overlaps.j0 k true a0_0 a0_1 a1_0 a1_1 a2_0 a2_1 a3_0 a3_1))
set_option maxRecDepth 100000 in
theorem computusref20_Overlaps.vc (k : Nat) (a0_0 : Int) (a0_1 : Int) (a1_0 : Int) (a1_1 : Int) (a2_0 : Int) (a2_1 : Int) (a3_0 : Int) (a3_1 : Int) (K : AV → Prop) : afv PA Tryz.prog (tab [(11, computusref15_CmpStamp.con k), (13, computusref15_RightStamp.con k)]) noLoops 2 28 [.agg [.int .i64 a0_0, .int .i64 a0_1], .agg [.int .i64 a1_0, .int .i64 a1_1], .agg [.int .i64 a2_0, .int .i64 a2_1], .agg [.int .i64 a3_0, .int .i64 a3_1]] K = (brc (Option.isSome (computusref15_RightStamp.f k a0_0 a0_1)) (∀ (m0 : Bool), m0 = gd (computusref15_RightStamp.f k a0_0 a0_1) → brc (!m0) (K (AV.tup [AV.bool false, AV.int IntKind.i64 1])) (brc (Option.isSome (computusref15_RightStamp.f k a1_0 a1_1)) (∀ (m1 : Bool), m1 = gd (computusref15_RightStamp.f k a1_0 a1_1) → brc (!m1) (K (AV.tup [AV.bool false, AV.int IntKind.i64 1])) (brc (Option.isSome (computusref15_RightStamp.f k a2_0 a2_1)) (∀ (m2 : Bool), m2 = gd (computusref15_RightStamp.f k a2_0 a2_1) → brc (!m2) (K (AV.tup [AV.bool false, AV.int IntKind.i64 1])) (brc (Option.isSome (computusref15_RightStamp.f k a3_0 a3_1)) (∀ (m3 : Bool), m3 = gd (computusref15_RightStamp.f k a3_0 a3_1) → brc (!m3) (K (AV.tup [AV.bool false, AV.int IntKind.i64 1])) (brc (Option.isSome (computusref15_CmpStamp.f k a0_0 a0_1 a1_0 a1_1)) (∀ (m4 : Int), m4 = gd (computusref15_CmpStamp.f k a0_0 a0_1 a1_0 a1_1) → brc (decide (m4 > 0)) (brc (Option.isSome (computusref15_CmpStamp.f k a2_0 a2_1 a3_0 a3_1)) (∀ (m5 : Int), m5 = gd (computusref15_CmpStamp.f k a2_0 a2_1 a3_0 a3_1) → brc (decide (m5 > 0)) (brc (Option.isSome (computusref15_CmpStamp.f k a1_0 a1_1 a3_0 a3_1)) (∀ (m6 : Int), m6 = gd (computusref15_CmpStamp.f k a1_0 a1_1 a3_0 a3_1) → brc (m6 == 0) (K (AV.tup [AV.bool true, AV.int IntKind.i64 0])) (brc (decide (m6 < 0)) (brc (Option.isSome (computusref15_CmpStamp.f k a3_0 a3_1 a0_0 a0_1)) (∀ (m7 : Int), m7 = gd (computusref15_CmpStamp.f k a3_0 a3_1 a0_0 a0_1) → K (AV.tup [AV.bool (decide (m7 < 0)), AV.int IntKind.i64 0])) False) (brc (Option.isSome (computusref15_CmpStamp.f k a1_0 a1_1 a2_0 a2_1)) (∀ (m7 : Int), m7 = gd (computusref15_CmpStamp.f k a1_0 a1_1 a2_0 a2_1) → K (AV.tup [AV.bool (decide (m7 < 0)), AV.int IntKind.i64 0])) False))) False) (brc (Option.isSome (computusref15_CmpStamp.f k a1_0 a1_1 a2_0 a2_1)) (∀ (m6 : Int), m6 = gd (computusref15_CmpStamp.f k a1_0 a1_1 a2_0 a2_1) → brc (m6 == 0) (K (AV.tup [AV.bool true, AV.int IntKind.i64 0])) (brc (decide (m6 < 0)) (brc (Option.isSome (computusref15_CmpStamp.f k a2_0 a2_1 a0_0 a0_1)) (∀ (m7 : Int), m7 = gd (computusref15_CmpStamp.f k a2_0 a2_1 a0_0 a0_1) → K (AV.tup [AV.bool (decide (m7 < 0)), AV.int IntKind.i64 0])) False) (brc (Option.isSome (computusref15_CmpStamp.f k a1_0 a1_1 a3_0 a3_1)) (∀ (m7 : Int), m7 = gd (computusref15_CmpStamp.f k a1_0 a1_1 a3_0 a3_1) → K (AV.tup [AV.bool (decide (m7 < 0)), AV.int IntKind.i64 0])) False))) False)) False) (brc (Option.isSome (computusref15_CmpStamp.f k a2_0 a2_1 a3_0 a3_1)) (∀ (m5 : Int), m5 = gd (computusref15_CmpStamp.f k a2_0 a2_1 a3_0 a3_1) → brc (decide (m5 > 0)) (brc (Option.isSome (computusref15_CmpStamp.f k a0_0 a0_1 a3_0 a3_1)) (∀ (m6 : Int), m6 = gd (computusref15_CmpStamp.f k a0_0 a0_1 a3_0 a3_1) → brc (m6 == 0) (K (AV.tup [AV.bool true, AV.int IntKind.i64 0])) (brc (decide (m6 < 0)) (brc (Option.isSome (computusref15_CmpStamp.f k a3_0 a3_1 a1_0 a1_1)) (∀ (m7 : Int), m7 = gd (computusref15_CmpStamp.f k a3_0 a3_1 a1_0 a1_1) → K (AV.tup [AV.bool (decide (m7 < 0)), AV.int IntKind.i64 0])) False) (brc (Option.isSome (computusref15_CmpStamp.f k a0_0 a0_1 a2_0 a2_1)) (∀ (m7 : Int), m7 = gd (computusref15_CmpStamp.f k a0_0 a0_1 a2_0 a2_1) → K (AV.tup [AV.bool (decide (m7 < 0)), AV.int IntKind.i64 0])) False))) False) (brc (Option.isSome (computusref15_CmpStamp.f k a0_0 a0_1 a2_0 a2_1)) (∀ (m6 : Int), m6 = gd (computusref15_CmpStamp.f k a0_0 a0_1 a2_0 a2_1) → brc (m6 == 0) (K (AV.tup [AV.bool true, AV.int IntKind.i64 0])) (brc (decide (m6 < 0)) (brc (Option.isSome (computusref15_CmpStamp.f k a2_0 a2_1 a1_0 a1_1)) (∀ (m7 : Int), m7 = gd (computusref15_CmpStamp.f k a2_0 a2_1 a1_0 a1_1) → K (AV.tup [AV.bool (decide (m7 < 0)), AV.int IntKind.i64 0])) False) (brc (Option.isSome (computusref15_CmpStamp.f k a0_0 a0_1 a3_0 a3_1)) (∀ (m7 : Int), m7 = gd (computusref15_CmpStamp.f k a0_0 a0_1 a3_0 a3_1) → K (AV.tup [AV.bool (decide (m7 < 0)), AV.int IntKind.i64 0])) False))) False)) False)) False)) False)) False)) False)) False) := by kernel_rfl
set_option maxHeartbeats 1000000 in
set_option maxRecDepth 100000 in
theorem computusref20_Overlaps.calls (k : Nat) (a0_0 : Int) (a0_1 : Int) (a1_0 : Int) (a1_1 : Int) (a2_0 : Int) (a2_1 : Int) (a3_0 : Int) (a3_1 : Int) (r1 : Bool) (r2 : Int) (w : World) (h : computusref20_Overlaps.f k a0_0 a0_1 a1_0 a1_1 a2_0 a2_1 a3_0 a3_1 = some (r1, r2)) :
    Calls Tryz.prog 28 #[.agg #[.int .i64 a0_0, .int .i64 a0_1], .agg #[.int .i64 a1_0, .int .i64 a1_1], .agg #[.int .i64 a2_0, .int .i64 a2_1], .agg #[.int .i64 a3_0, .int .i64 a3_1]] w fun e w' => e = .returned (.tuple #[.bool r1, .int .i64 r2]) ∧ Below w.heap.size w w' := by
  refine calls_of_vc (A := [.agg #[.int .i64 a0_0, .int .i64 a0_1], .agg #[.int .i64 a1_0, .int .i64 a1_1], .agg #[.int .i64 a2_0, .int .i64 a2_1], .agg #[.int .i64 a3_0, .int .i64 a3_1]]) (v := .tup [.bool r1, .int .i64 r2]) (tab_cons (computusref15_CmpStamp.cok k) (tab_cons (computusref15_RightStamp.cok k) (tab_nil))) ((computusref20_Overlaps.vc k a0_0 a0_1 a1_0 a1_1 a2_0 a2_1 a3_0 a3_1 _).mpr ?_) (by simp [rl_cons, rl_nil, rv_int, rv_bool, rv_str, rv_agg, rv_fn]) (fun ρ V' hV => by simpa [rl_cons, rl_nil, rv_int, rv_bool, rv_str, rv_agg, rv_tup] using hV)
  unfold computusref20_Overlaps.f at h
  cases k with
  | zero =>
    (try simp only [computusref20_Overlaps.j0, computusref20_Overlaps.j1, computusref20_Overlaps.j2] at h)
    (try simp only [bne, Option.bind_eq_some_iff, ite_some_iff] at h)
    (try simp only [bne, brc_iff, wrap_i64])
    first
      | grind (splits := 60) [gd_some]
      | ((repeat' (first | (have or_ : Or _ _ := h; clear or_; rcases h with h | h) | (have or_ : Exists _ := h; clear or_; obtain ⟨_, h⟩ := h) | (have or_ : And _ _ := h; clear or_; obtain ⟨hq_, h⟩ := h))) <;> (try simp only [Option.some.injEq, Prod.mk.injEq, reduceCtorEq] at h) <;> (try subst_vars) <;> first | (simp_all [gd_some] <;> (try omega) <;> done) | grind (splits := 60) [gd_some])
      | (intros; subst_vars; simp_all [gd_some]; done)
  | succ k =>
    cases k with
    | zero =>
      (try simp only [computusref20_Overlaps.j0, computusref20_Overlaps.j1, computusref20_Overlaps.j2] at h)
      (try simp only [bne, Option.bind_eq_some_iff, ite_some_iff] at h)
      (try simp only [bne, brc_iff, wrap_i64])
      first
        | grind (splits := 60) [gd_some, computusref15_CmpStamp.up, computusref15_RightStamp.up]
        | ((repeat' (first | (have or_ : Or _ _ := h; clear or_; rcases h with h | h) | (have or_ : Exists _ := h; clear or_; obtain ⟨_, h⟩ := h) | (have or_ : And _ _ := h; clear or_; obtain ⟨hq_, h⟩ := h; (try first | replace hq_ := computusref15_CmpStamp.le (n := 0 + 1) hq_ (by omega) | replace hq_ := computusref15_RightStamp.le (n := 0 + 1) hq_ (by omega))))) <;> (try simp only [Option.some.injEq, Prod.mk.injEq, reduceCtorEq] at h) <;> (try subst_vars) <;> first | (simp_all [gd_some] <;> (try omega) <;> done) | grind (splits := 60) [gd_some, computusref15_CmpStamp.up, computusref15_RightStamp.up])
        | (intros; subst_vars; simp_all [gd_some]; done)
    | succ k =>
      cases k with
      | zero =>
        (try simp only [computusref20_Overlaps.j0, computusref20_Overlaps.j1, computusref20_Overlaps.j2] at h)
        (try simp only [bne, Option.bind_eq_some_iff, ite_some_iff] at h)
        (try simp only [bne, brc_iff, wrap_i64])
        first
          | grind (splits := 60) [gd_some, computusref15_CmpStamp.up, computusref15_RightStamp.up]
          | ((repeat' (first | (have or_ : Or _ _ := h; clear or_; rcases h with h | h) | (have or_ : Exists _ := h; clear or_; obtain ⟨_, h⟩ := h) | (have or_ : And _ _ := h; clear or_; obtain ⟨hq_, h⟩ := h; (try first | replace hq_ := computusref15_CmpStamp.le (n := 0 + 1 + 1) hq_ (by omega) | replace hq_ := computusref15_RightStamp.le (n := 0 + 1 + 1) hq_ (by omega))))) <;> (try simp only [Option.some.injEq, Prod.mk.injEq, reduceCtorEq] at h) <;> (try subst_vars) <;> first | (simp_all [gd_some] <;> (try omega) <;> done) | grind (splits := 60) [gd_some, computusref15_CmpStamp.up, computusref15_RightStamp.up])
          | (intros; subst_vars; simp_all [gd_some]; done)
      | succ k =>
        (try simp only [computusref20_Overlaps.j0, computusref20_Overlaps.j1, computusref20_Overlaps.j2] at h)
        (try simp only [bne, Option.bind_eq_some_iff, ite_some_iff] at h)
        (try simp only [bne, brc_iff, wrap_i64])
        first
          | grind (splits := 60) [gd_some, computusref15_CmpStamp.up, computusref15_RightStamp.up]
          | ((repeat' (first | (have or_ : Or _ _ := h; clear or_; rcases h with h | h) | (have or_ : Exists _ := h; clear or_; obtain ⟨_, h⟩ := h) | (have or_ : And _ _ := h; clear or_; obtain ⟨hq_, h⟩ := h; (try first | replace hq_ := computusref15_CmpStamp.le (n := k + 1 + 1 + 1) hq_ (by omega) | replace hq_ := computusref15_RightStamp.le (n := k + 1 + 1 + 1) hq_ (by omega))))) <;> (try simp only [Option.some.injEq, Prod.mk.injEq, reduceCtorEq] at h) <;> (try subst_vars) <;> first | (simp_all [gd_some] <;> (try omega) <;> done) | grind (splits := 60) [gd_some, computusref15_CmpStamp.up, computusref15_RightStamp.up])
          | (intros; subst_vars; simp_all [gd_some]; done)
noncomputable def computusref20_Overlaps.con (k : Nat) : Con
  | [.agg [.int .i64 a0_0, .int .i64 a0_1], .agg [.int .i64 a1_0, .int .i64 a1_1], .agg [.int .i64 a2_0, .int .i64 a2_1], .agg [.int .i64 a3_0, .int .i64 a3_1]] => some ((computusref20_Overlaps.f k a0_0 a0_1 a1_0 a1_1 a2_0 a2_1 a3_0 a3_1).isSome, .tup [.bool (gd (computusref20_Overlaps.f k a0_0 a0_1 a1_0 a1_1 a2_0 a2_1 a3_0 a3_1)).1, .int .i64 (gd (computusref20_Overlaps.f k a0_0 a0_1 a1_0 a1_1 a2_0 a2_1 a3_0 a3_1)).2])
  | _ => none
set_option maxRecDepth 100000 in
theorem computusref20_Overlaps.cok (k : Nat) : COk Tryz.prog 28 (computusref20_Overlaps.con k) := by
  intro args p v hc hp w A hA
  unfold computusref20_Overlaps.con at hc
  split at hc
  · rename_i a0_0 a0_1 a1_0 a1_1 a2_0 a2_1 a3_0 a3_1
    simp only [Option.some.injEq, Prod.mk.injEq] at hc
    obtain ⟨rfl, rfl⟩ := hc
    rcases hf : computusref20_Overlaps.f k a0_0 a0_1 a1_0 a1_1 a2_0 a2_1 a3_0 a3_1 with _ | ⟨r1, r2⟩
    · rw [hf] at hp; cases hp
    obtain rfl : A = [.agg #[.int .i64 a0_0, .int .i64 a0_1], .agg #[.int .i64 a1_0, .int .i64 a1_1], .agg #[.int .i64 a2_0, .int .i64 a2_1], .agg #[.int .i64 a3_0, .int .i64 a3_1]] := by simpa [rl_cons, rl_nil, rv_int, rv_bool, rv_str, rv_agg, rv_fn] using hA
    exact gives_of_calls (fn := Tryz.f28) Tryz.func28 (by kernel_rfl) (by kernel_rfl) (computusref20_Overlaps.calls _ _ _ _ _ _ _ _ _ _ _ w hf) (fun _ => by simp [gd_some, rl_cons, rl_nil, rv_int, rv_bool, rv_str, rv_agg, rv_tup]) (fun _ h => h)
  · cases hc
end Go.Proofs.YthkmckmfgglafaaGreat.P
namespace Go.Proofs.YthkmckmfgglafaaGreat.P
open Go.RowKit Go.Proofs.YthkmckmfgglafaaGreatW.PrintWords Go.Proofs.YthkmckmfgglafaaGreatW.PrintLast Go.Proofs.YthkmckmfgglafaaGreatW.PrintMore
open Go.Proofs.YthkmckmfgglafaaGreat.A
attribute [local go_sem] max2_int min2_int max_two min_two max_three min_three max_four min_four   -- for this text's walks alone
set_option linter.unusedVariables false
set_option linter.unusedSimpArgs false
def computuslaw20_OpsOverlaps.f (k : Nat) (a0_0 : Int) (a0_1 : Int) (a1_0 : Int) (a1_1 : Int) (a2_0 : Int) (a2_1 : Int) (a3_0 : Int) (a3_1 : Int) : Option (Bool) := (ops_Overlaps.f k a0_0 a0_1 a1_0 a1_1 a2_0 a2_1 a3_0 a3_1).bind fun bt1068 => ((computusref20_Overlaps.f k a0_0 a0_1 a1_0 a1_1 a2_0 a2_1 a3_0 a3_1).bind fun bt1070 => ((ops_Overlaps.f k a3_0 a3_1 a2_0 a2_1 a1_0 a1_1 a0_0 a0_1).bind fun bt1072 => (if (bt1068.1 == bt1070.1) = true then (if bt1068.2 = bt1070.2 then (if (bt1072.1 == bt1068.1) = true then (if bt1072.2 = bt1068.2 then ((computuslaw20_known.f).bind fun t1074 => (some t1074)) else (some false)) else (some false)) else (some false)) else (some false))))
set_option maxRecDepth 100000 in
theorem computuslaw20_OpsOverlaps.vc (k : Nat) (a0_0 : Int) (a0_1 : Int) (a1_0 : Int) (a1_1 : Int) (a2_0 : Int) (a2_1 : Int) (a3_0 : Int) (a3_1 : Int) (K : AV → Prop) : afv PA Tryz.prog (tab [(10, computuslaw20_known.con), (27, ops_Overlaps.con k), (28, computusref20_Overlaps.con k)]) noLoops 2 8 [.agg [.int .i64 a0_0, .int .i64 a0_1], .agg [.int .i64 a1_0, .int .i64 a1_1], .agg [.int .i64 a2_0, .int .i64 a2_1], .agg [.int .i64 a3_0, .int .i64 a3_1]] K = (brc (Option.isSome (ops_Overlaps.f k a0_0 a0_1 a1_0 a1_1 a2_0 a2_1 a3_0 a3_1)) (∀ (m0 : Bool), m0 = Prod.fst (gd (ops_Overlaps.f k a0_0 a0_1 a1_0 a1_1 a2_0 a2_1 a3_0 a3_1)) → ∀ (m1 : Int), m1 = Prod.snd (gd (ops_Overlaps.f k a0_0 a0_1 a1_0 a1_1 a2_0 a2_1 a3_0 a3_1)) → brc (Option.isSome (computusref20_Overlaps.f k a0_0 a0_1 a1_0 a1_1 a2_0 a2_1 a3_0 a3_1)) (∀ (m2 : Bool), m2 = Prod.fst (gd (computusref20_Overlaps.f k a0_0 a0_1 a1_0 a1_1 a2_0 a2_1 a3_0 a3_1)) → ∀ (m3 : Int), m3 = Prod.snd (gd (computusref20_Overlaps.f k a0_0 a0_1 a1_0 a1_1 a2_0 a2_1 a3_0 a3_1)) → brc (Option.isSome (ops_Overlaps.f k a3_0 a3_1 a2_0 a2_1 a1_0 a1_1 a0_0 a0_1)) (∀ (m4 : Bool), m4 = Prod.fst (gd (ops_Overlaps.f k a3_0 a3_1 a2_0 a2_1 a1_0 a1_1 a0_0 a0_1)) → ∀ (m5 : Int), m5 = Prod.snd (gd (ops_Overlaps.f k a3_0 a3_1 a2_0 a2_1 a1_0 a1_1 a0_0 a0_1)) → brc (m0 == m2) (brc (m1 == m3) (brc (m4 == m0) (brc (m5 == m1) (brc (decide (computuslaw20_known.f = some true)) (∀ (m6 : Bool), m6 = true → K (AV.bool m6)) False) (K (AV.bool false))) (K (AV.bool false))) (K (AV.bool false))) (K (AV.bool false))) False) False) False) := by kernel_rfl
set_option maxHeartbeats 1000000 in
set_option maxRecDepth 100000 in
theorem computuslaw20_OpsOverlaps.calls (k : Nat) (a0_0 : Int) (a0_1 : Int) (a1_0 : Int) (a1_1 : Int) (a2_0 : Int) (a2_1 : Int) (a3_0 : Int) (a3_1 : Int) (r : Bool) (w : World) (h : computuslaw20_OpsOverlaps.f k a0_0 a0_1 a1_0 a1_1 a2_0 a2_1 a3_0 a3_1 = some r) (hR : r = true) :
    Calls Tryz.prog 8 #[.agg #[.int .i64 a0_0, .int .i64 a0_1], .agg #[.int .i64 a1_0, .int .i64 a1_1], .agg #[.int .i64 a2_0, .int .i64 a2_1], .agg #[.int .i64 a3_0, .int .i64 a3_1]] w fun e w' => e = .returned (.bool r) ∧ Below w.heap.size w w' := by
  refine calls_of_vc (A := [.agg #[.int .i64 a0_0, .int .i64 a0_1], .agg #[.int .i64 a1_0, .int .i64 a1_1], .agg #[.int .i64 a2_0, .int .i64 a2_1], .agg #[.int .i64 a3_0, .int .i64 a3_1]]) (v := .bool r) (tab_cons (computuslaw20_known.cok) (tab_cons (ops_Overlaps.cok k) (tab_cons (computusref20_Overlaps.cok k) (tab_nil)))) ((computuslaw20_OpsOverlaps.vc k a0_0 a0_1 a1_0 a1_1 a2_0 a2_1 a3_0 a3_1 _).mpr ?_) (by simp [rl_cons, rl_nil, rv_int, rv_bool, rv_str, rv_agg, rv_fn]) (fun ρ V' hV => by simpa [rl_cons, rl_nil, rv_int, rv_bool, rv_str, rv_agg, rv_tup] using hV)
  unfold computuslaw20_OpsOverlaps.f at h
  (try simp only [bne, Option.bind_eq_some_iff, ite_some_iff] at h)
  (try simp only [bne, brc_iff, wrap_i64])
  first
    | grind (splits := 60) [gd_some]
    | ((repeat' (first | (have or_ : Or _ _ := h; clear or_; rcases h with h | h) | (have or_ : Exists _ := h; clear or_; obtain ⟨_, h⟩ := h) | (have or_ : And _ _ := h; clear or_; obtain ⟨hq_, h⟩ := h))) <;> (try simp only [Option.some.injEq, Prod.mk.injEq, reduceCtorEq] at h) <;> (try subst_vars) <;> first | (simp_all [gd_some] <;> (try omega) <;> rcases hb0 : decide (computuslaw20_known.f = some true) with _ | _ <;> simp_all [gd_some] <;> done) | grind (splits := 60) [gd_some])
    | (intros; subst_vars; simp_all [gd_some]; done)
/-- THE ONE PURE STATEMENT of computuslaw20_OpsOverlaps: yours. -/
def computuslaw20_OpsOverlaps.Pure : Prop := ∀ (a0_0 : Int) (a0_1 : Int) (a1_0 : Int) (a1_1 : Int) (a2_0 : Int) (a2_1 : Int) (a3_0 : Int) (a3_1 : Int), (Lit.int .i64 a0_0).wf = true → (Lit.int .i64 a0_1).wf = true → (Lit.int .i64 a1_0).wf = true → (Lit.int .i64 a1_1).wf = true → (Lit.int .i64 a2_0).wf = true → (Lit.int .i64 a2_1).wf = true → (Lit.int .i64 a3_0).wf = true → (Lit.int .i64 a3_1).wf = true → ∃ k, computuslaw20_OpsOverlaps.f k a0_0 a0_1 a1_0 a1_1 a2_0 a2_1 a3_0 a3_1 = some true
theorem computuslaw20_OpsOverlaps.walk (P : computuslaw20_OpsOverlaps.Pure) (a0_0 : Int) (a0_1 : Int) (a1_0 : Int) (a1_1 : Int) (a2_0 : Int) (a2_1 : Int) (a3_0 : Int) (a3_1 : Int) (w : World) (w0_0 : (Lit.int .i64 a0_0).wf = true) (w0_1 : (Lit.int .i64 a0_1).wf = true) (w1_0 : (Lit.int .i64 a1_0).wf = true) (w1_1 : (Lit.int .i64 a1_1).wf = true) (w2_0 : (Lit.int .i64 a2_0).wf = true) (w2_1 : (Lit.int .i64 a2_1).wf = true) (w3_0 : (Lit.int .i64 a3_0).wf = true) (w3_1 : (Lit.int .i64 a3_1).wf = true) :
    Calls Tryz.prog 8 #[.agg #[.int .i64 a0_0, .int .i64 a0_1], .agg #[.int .i64 a1_0, .int .i64 a1_1], .agg #[.int .i64 a2_0, .int .i64 a2_1], .agg #[.int .i64 a3_0, .int .i64 a3_1]] w fun e w' => e = .returned (.bool true) ∧ Below w.heap.size w w' := by
  obtain ⟨k, h⟩ := P a0_0 a0_1 a1_0 a1_1 a2_0 a2_1 a3_0 a3_1 w0_0 w0_1 w1_0 w1_1 w2_0 w2_1 w3_0 w3_1
  refine (computuslaw20_OpsOverlaps.calls k a0_0 a0_1 a1_0 a1_1 a2_0 a2_1 a3_0 a3_1 true w h rfl).mono ?_
  rintro e w' ⟨rfl, hd⟩
  exact ⟨rfl, hd⟩
end Go.Proofs.YthkmckmfgglafaaGreat.P
namespace Go.Proofs.YthkmckmfgglafaaGreat.Civ
set_option linter.unusedVariables false
set_option linter.unusedSimpArgs false
open Go.RowKit Go.Proofs.YthkmckmfgglafaaGreatW.PrintWords Go.Proofs.YthkmckmfgglafaaGreatW.PrintLast Go.Proofs.YthkmckmfgglafaaGreatW.PrintMore
theorem w64 {x : Int} (h1 : -9223372036854775808 ≤ x) (h2 : x ≤ 9223372036854775807) : wrap64 x = x := by unfold wrap64; omega
/-- A number is one of 64 bits. -/
def I64 (x : Int) : Prop := -9223372036854775808 ≤ x ∧ x ≤ 9223372036854775807
theorem i64_of_wf {x : Int} (h : (Lit.int .i64 x).wf = true) : I64 x := by
  simp only [Lit.wf, IntKind.min, IntKind.max, IntKind.signed, IntKind.bits, Bool.and_eq_true, decide_eq_true_eq, if_true] at h
  exact h
theorem wrap_i64 (x : Int) : I64 (wrap64 x) := by unfold I64 wrap64; omega
theorem td_pos {a b : Int} (ha : 0 ≤ a) : Int.tdiv a b = a / b := Int.tdiv_eq_ediv_of_nonneg ha
theorem tm_pos {a b : Int} (ha : 0 ≤ a) : Int.tmod a b = a % b := Int.tmod_eq_emod_of_nonneg ha
theorem td_neg {a b : Int} (ha : a ≤ 0) : Int.tdiv a b = -((-a) / b) := by
  have : Int.tdiv (-a) b = (-a) / b := Int.tdiv_eq_ediv_of_nonneg (by omega)
  rw [← this, Int.neg_tdiv, Int.neg_neg]
theorem tm_neg {a b : Int} (ha : a ≤ 0) : Int.tmod a b = -((-a) % b) := by
  have : Int.tmod (-a) b = (-a) % b := Int.tmod_eq_emod_of_nonneg (by omega)
  rw [← this, Int.neg_tmod, Int.neg_neg]
/-- Cut division against floored division. -/
theorem cut_floor (a : Int) {b : Int} (hb : 0 < b) : (Int.tmod a b < 0 → Int.tdiv a b = a / b + 1 ∧ Int.tmod a b = a % b - b ∧ 0 < a % b) ∧ (¬ Int.tmod a b < 0 → Int.tdiv a b = a / b ∧ Int.tmod a b = a % b) := by
  rcases Int.le_total 0 a with h | h
  · rw [td_pos h, tm_pos h]
    have := Int.emod_nonneg a (Int.ne_of_gt hb)
    exact ⟨fun h => by omega, fun _ => ⟨rfl, rfl⟩⟩
  · rw [td_neg h, tm_neg h]
    have e := Int.mul_ediv_add_emod (-a) b
    have h1 := Int.emod_nonneg (-a) (Int.ne_of_gt hb)
    have h2 := Int.emod_lt_of_pos (-a) hb
    generalize (-a) / b = q at *
    generalize (-a) % b = r at *
    constructor
    · intro hr
      have := (Int.ediv_emod_unique (a := a) (b := b) (r := b - r) (q := -q - 1) hb).2 ⟨by rw [Int.mul_sub, Int.mul_neg]; omega, by omega, by omega⟩
      omega
    · intro hr
      have := (Int.ediv_emod_unique (a := a) (b := b) (r := 0) (q := -q) hb).2 ⟨by rw [Int.mul_neg]; omega, by omega, by omega⟩
      omega
theorem ediv_i64 {a b : Int} (ha : I64 a) (hb : 0 < b) : -9223372036854775808 ≤ a / b ∧ a / b ≤ 9223372036854775807 := by
  obtain ⟨h1, h2⟩ := ha
  have e := Int.mul_ediv_add_emod a b
  have g1 := Int.emod_nonneg a (Int.ne_of_gt hb)
  have g2 := Int.emod_lt_of_pos a hb
  constructor
  · rw [Int.le_ediv_iff_mul_le hb]
    have : -9223372036854775808 * b ≤ -9223372036854775808 * 1 := Int.mul_le_mul_of_nonpos_left (by omega) (by omega)
    omega
  · rcases Int.lt_or_le a 0 with h | h
    · have : a / b < 0 := Int.ediv_lt_of_lt_mul hb (by omega)
      omega
    · have := Int.ediv_le_self b h; omega
theorem Ev.at1 {α : Type} {g : Nat → Option α} {r : α} (h : ∀ k, g (k + 1) = some r) : Ev g r :=
  ⟨1, fun k hk => by obtain ⟨m, rfl⟩ : ∃ m, k = m + 1 := ⟨k - 1, by omega⟩; exact h m⟩
theorem Ev.at2 {α : Type} {g : Nat → Option α} {r : α} (h : ∀ k, g (k + 2) = some r) : Ev g r :=
  ⟨2, fun k hk => by obtain ⟨m, rfl⟩ : ∃ m, k = m + 2 := ⟨k - 2, by omega⟩; exact h m⟩
theorem Ev.cast {α : Type} {g : Nat → Option α} {r r' : α} (h : Ev g r) (e : r = r') : Ev g r' := e ▸ h
/-- What is told without rounds, and then what hangs on rounds. -/
theorem Ev.bind0 {α β : Type} {g : Option α} {f : Nat → α → Option β} {a : α} {r : β} (h : g = some a) (k : Ev (fun n => f n a) r) : Ev (fun n => g.bind (f n)) r := by
  subst h; exact k
/-- One round, as it stands. -/
theorem Ev.succ {α : Type} {g : Nat → Option α} {r : α} (h : Ev (fun k => g (k + 1)) r) : Ev g r := Ev.step (f := fun k => g (k + 1)) (fun _ => rfl) h
theorem Ev.pos {α : Type} {c : Prop} [Decidable c] {f g : Nat → Option α} {r : α} (h : c) (k : Ev f r) : Ev (fun n => if c then f n else g n) r := by
  simpa only [if_pos h] using k
theorem Ev.neg {α : Type} {c : Prop} [Decidable c] {f g : Nat → Option α} {r : α} (h : ¬ c) (k : Ev g r) : Ev (fun n => if c then f n else g n) r := by
  simpa only [if_neg h] using k
end Go.Proofs.YthkmckmfgglafaaGreat.Civ
namespace Go.Proofs.YthkmckmfgglafaaGreat.Civ
set_option linter.unusedVariables false
set_option linter.unusedSimpArgs false
/-- One if a year is a leap year. -/
def lp (y : Int) : Int := if y % 4 = 0 ∧ (y % 100 ≠ 0 ∨ y % 400 = 0) then 1 else 0
theorem lp_01 (y : Int) : 0 ≤ lp y ∧ lp y ≤ 1 := by unfold lp; split <;> omega
/-- Days from January 1, 2000 to January 1 of a year. -/
def dby (y : Int) : Int := 365 * (y - 2000) + (y - 1) / 4 - (y - 1) / 100 + (y - 1) / 400 - 484
theorem dby_succ (y : Int) : dby (y + 1) = dby y + 365 + lp y := by
  unfold dby lp; split <;> omega
theorem dby_era (y k : Int) : dby (y + 400 * k) = dby y + 146097 * k := by unfold dby; omega
/-- Between two years there are 365 days at least for each year. -/
theorem dby_far (a b : Int) (h : a ≤ b) : dby a + 365 * (b - a) ≤ dby b := by unfold dby; omega
theorem dby_near (a b : Int) (h : a ≤ b) : dby b ≤ dby a + 366 * (b - a) := by unfold dby; omega
theorem year_unique {a b n : Int} (h1 : dby a ≤ n) (h2 : n < dby (a + 1)) (h3 : dby b ≤ n) (h4 : n < dby (b + 1)) : a = b := by
  rcases Int.lt_trichotomy a b with h | h | h
  · have := dby_far (a + 1) b (by omega); omega
  · exact h
  · have := dby_far (b + 1) a (by omega); omega
/-- How many days a month has. -/
def mlen (y m : Int) : Int := if m < 1 ∨ 12 < m then 0 else if m = 2 then 28 + lp y else if m = 4 ∨ m = 6 ∨ m = 9 ∨ m = 11 then 30 else 31
/-- Days of a year ahead of a month. -/
def cum (y m : Int) : Int :=
  if m ≤ 1 then 0 else if m = 2 then 31 else
  (if m = 3 then 59 else if m = 4 then 90 else if m = 5 then 120 else if m = 6 then 151 else if m = 7 then 181 else if m = 8 then 212 else if m = 9 then 243 else if m = 10 then 273 else if m = 11 then 304 else if m = 12 then 334 else 365) + lp y
theorem twelve {m : Int} (h1 : 1 ≤ m) (h2 : m ≤ 12) : m = 1 ∨ m = 2 ∨ m = 3 ∨ m = 4 ∨ m = 5 ∨ m = 6 ∨ m = 7 ∨ m = 8 ∨ m = 9 ∨ m = 10 ∨ m = 11 ∨ m = 12 := by omega
theorem cum_succ (y m : Int) (h1 : 1 ≤ m) (h2 : m ≤ 12) : cum y (m + 1) = cum y m + mlen y m := by
  have hl := lp_01 y
  rcases twelve h1 h2 with e | e | e | e | e | e | e | e | e | e | e | e <;> subst e <;> simp [cum, mlen] <;> omega
theorem cum_end (y m : Int) (h : 12 < m) : cum y m = 365 + lp y := by
  unfold cum
  rw [if_neg (by omega), if_neg (by omega), if_neg (by omega), if_neg (by omega), if_neg (by omega), if_neg (by omega), if_neg (by omega), if_neg (by omega), if_neg (by omega), if_neg (by omega), if_neg (by omega), if_neg (by omega)]
theorem cum_one (y : Int) : cum y 1 = 0 := rfl
theorem mlen_bd (y m : Int) (h1 : 1 ≤ m) (h2 : m ≤ 12) : 28 ≤ mlen y m ∧ mlen y m ≤ 31 := by
  have hl := lp_01 y
  rcases twelve h1 h2 with e | e | e | e | e | e | e | e | e | e | e | e <;> subst e <;> simp [mlen] <;> omega
theorem mlen_out (y m : Int) (h : m < 1 ∨ 12 < m) : mlen y m = 0 := by unfold mlen; rw [if_pos h]
theorem cum_step (y a b : Int) (h1 : 1 ≤ a) (h : a < b) (h2 : b ≤ 12) : cum y a + mlen y a ≤ cum y b := by
  have hl := lp_01 y
  rcases twelve h1 (by omega) with e | e | e | e | e | e | e | e | e | e | e | e <;> subst e <;>
  rcases twelve (by omega) h2 with e | e | e | e | e | e | e | e | e | e | e | e <;> subst e <;> simp [cum, mlen] <;> omega
theorem cum_bd (y m : Int) (h1 : 1 ≤ m) (h2 : m ≤ 12) : 0 ≤ cum y m ∧ cum y m + mlen y m ≤ 365 + lp y := by
  have hl := lp_01 y
  rcases twelve h1 h2 with e | e | e | e | e | e | e | e | e | e | e | e <;> subst e <;> simp [cum, mlen] <;> omega
/-- A date's day. -/
def dnum (y m d : Int) : Int := dby y + cum y m + d - 1
/-- A day is that of a date. -/
structure IsDate (n y m d : Int) : Prop where
  m1 : 1 ≤ m
  m12 : m ≤ 12
  d1 : 1 ≤ d
  dl : d ≤ mlen y m
  num : dnum y m d = n
theorem IsDate.year {n y m d : Int} (h : IsDate n y m d) : dby y ≤ n ∧ n < dby (y + 1) := by
  have hs := dby_succ y
  have hc := cum_bd y m h.m1 h.m12
  have h1 := h.d1
  have h2 := h.dl
  have h3 := h.num
  unfold dnum at h3
  omega
theorem IsDate.unique {n y m d y' m' d' : Int} (h : IsDate n y m d) (k : IsDate n y' m' d') : y = y' ∧ m = m' ∧ d = d' := by
  have hy := h.year
  have ky := k.year
  have e : y = y' := year_unique hy.1 hy.2 ky.1 ky.2
  subst e
  have h1 := h.d1; have h2 := h.dl; have h3 := h.num; have h4 := h.m1; have h5 := h.m12
  have k1 := k.d1; have k2 := k.dl; have k3 := k.num; have k4 := k.m1; have k5 := k.m12
  unfold dnum at h3 k3
  rcases Int.lt_trichotomy m m' with hm | hm | hm
  · have := cum_step y m m' h4 hm k5; omega
  · subst hm; exact ⟨rfl, rfl, by omega⟩
  · have := cum_step y m' m k4 hm h5; omega
/-- Each day has a date. -/
theorem year_of (n : Int) : ∃ y, dby y ≤ n ∧ n < dby (y + 1) := by
  -- of a day of the first 400 years behind 2000
  have base : ∀ k : Nat, ∀ n : Int, 0 ≤ n → n < dby (2000 + k) → ∃ y, 2000 ≤ y ∧ dby y ≤ n ∧ n < dby (y + 1) := by
    intro k
    induction k with
    | zero => intro n h0 h; exfalso; have : dby (2000 + ((0 : Nat) : Int)) = 0 := by decide
              omega
    | succ k ih =>
      intro n h0 h
      by_cases g : n < dby (2000 + k)
      · exact ih n h0 g
      · exact ⟨2000 + k, by omega, by omega, by have e : (2000 + ((k + 1 : Nat) : Int)) = 2000 + k + 1 := by omega
                                                rw [e] at h; exact h⟩
  obtain ⟨y, _, h1, h2⟩ := base 400 (n % 146097) (by omega) (by have : dby (2000 + ((400 : Nat) : Int)) = 146097 := by decide
                                                                omega)
  refine ⟨y + 400 * (n / 146097), ?_, ?_⟩
  · rw [dby_era]; omega
  · rw [show y + 400 * (n / 146097) + 1 = (y + 1) + 400 * (n / 146097) by omega, dby_era]; omega
theorem month_of (y left : Int) (h0 : 0 ≤ left) (h1 : left < 365 + lp y) : ∃ m, 1 ≤ m ∧ m ≤ 12 ∧ cum y m ≤ left ∧ left < cum y m + mlen y m := by
  have key : ∀ k : Nat, k ≤ 12 → left < cum y (1 + k) → ∃ m, 1 ≤ m ∧ m ≤ 12 ∧ cum y m ≤ left ∧ left < cum y m + mlen y m := by
    intro k
    induction k with
    | zero => intro _ h; exfalso; have : cum y (1 + ((0 : Nat) : Int)) = 0 := rfl
              omega
    | succ k ih =>
      intro hk h
      by_cases g : left < cum y (1 + k)
      · exact ih (by omega) g
      · refine ⟨1 + k, by omega, by omega, by omega, ?_⟩
        rw [← cum_succ y (1 + k) (by omega) (by omega), show (1 + (k : Int) + 1) = 1 + ((k + 1 : Nat) : Int) by omega]; exact h
  refine key 12 (by omega) ?_
  rw [cum_end y _ (by omega)]; exact h1
theorem date_of (n : Int) : ∃ y m d, IsDate n y m d := by
  obtain ⟨y, h1, h2⟩ := year_of n
  have hs := dby_succ y
  obtain ⟨m, a, b, c, e⟩ := month_of y (n - dby y) (by omega) (by omega)
  exact ⟨y, m, n - dby y - cum y m + 1, a, b, by omega, by omega, by unfold dnum; omega⟩
/-- The days that can be: those of the years -4718 to 294282. -/
def CanDay (n : Int) : Prop := -2453698 ≤ n ∧ n ≤ 106754173
theorem dby_first : dby (-4718) = -2453698 := by decide
theorem dby_last : dby 294283 = 106754174 := by decide
theorem can_of_year {n y m d : Int} (h : IsDate n y m d) : CanDay n ↔ -4718 ≤ y ∧ y ≤ 294282 := by
  have hy := h.year
  have f := dby_first
  have l := dby_last
  unfold CanDay
  constructor
  · rintro ⟨h1, h2⟩
    constructor
    · rcases Int.lt_or_le y (-4718) with g | g
      · have := dby_far (y + 1) (-4718) (by omega); omega
      · exact g
    · rcases Int.lt_or_le 294282 y with g | g
      · have := dby_far 294283 y (by omega); omega
      · exact g
  · rintro ⟨h1, h2⟩
    have a := dby_far (-4718) y h1
    have b := dby_far (y + 1) 294283 (by omega)
    omega
end Go.Proofs.YthkmckmfgglafaaGreat.Civ
namespace Go.Proofs.YthkmckmfgglafaaGreat.Civ
set_option linter.unusedVariables false
set_option linter.unusedSimpArgs false
open Go.RowKit Go.Proofs.YthkmckmfgglafaaGreatW.PrintWords Go.Proofs.YthkmckmfgglafaaGreatW.PrintLast Go.Proofs.YthkmckmfgglafaaGreatW.PrintMore Go.Proofs.YthkmckmfgglafaaGreat.P
theorem floor_eq (a b : Int) (ha : I64 a) (hb : 1 < b) (hb2 : b ≤ 4611686018427387904) : civil_floor.f a b = some (a / b, a % b) := by
  have c := cut_floor a (b := b) (by omega)
  have q := ediv_i64 (b := b) ha (by omega)
  have h1 := Int.emod_nonneg a (b := b) (by omega)
  have h2 := Int.emod_lt_of_pos a (b := b) (by omega)
  unfold civil_floor.f
  rw [if_neg (by omega)]
  by_cases h : Int.tmod a b < 0
  · obtain ⟨c1, c2, _⟩ := c.1 h
    rw [if_pos h, c1, c2]
    have q2 : a / b + 1 ≤ 9223372036854775807 := by
      have : a / b ≤ 4611686018427387904 := by
        rcases Int.lt_or_le a 0 with g | g
        · have : a / b < 0 := Int.ediv_lt_of_lt_mul (by omega) (by omega)
          omega
        · have := Int.ediv_le_ediv (c := 2) (by omega) ha.2
          have h3 : a / b ≤ a / 2 := by
            rw [Int.le_ediv_iff_mul_le (by omega)]
            have e := Int.mul_ediv_add_emod a b
            have h4 := Int.emod_nonneg a (b := b) (by omega)
            have h5 : 0 ≤ a / b := Int.ediv_nonneg g (by omega)
            have h6 : a / b * 2 ≤ a / b * b := Int.mul_le_mul_of_nonneg_left (by omega) h5
            rw [Int.mul_comm b] at e
            omega
          omega
      omega
    rw [w64 (x := a / b + 1) (by omega) (by omega), w64 (by omega) (by omega), w64 (by omega) (by omega)]
    congr 2 <;> omega
  · obtain ⟨c1, c2⟩ := c.2 h
    rw [if_neg h, c1, c2, w64 q.1 q.2]
theorem era_eq (y : Int) : y / 400 * 146097 + y % 400 * 365 + y % 400 / 4 - y % 400 / 100 = 365 * y + y / 4 - y / 100 + y / 400 := by omega
theorem day_eq (y m d : Int) (h1 : 1 ≤ m) (h2 : m ≤ 12) (hy : -2000000 ≤ y) (hy2 : y ≤ 2000000) (hd : -100 ≤ d) (hd2 : d ≤ 100) : civil_day.f y m d = some (dnum y m d) := by
  have hl := lp_01 y
  unfold civil_day.f
  by_cases hm : m ≤ 2
  · rw [if_pos hm, w64 (x := y - 1) (by omega) (by omega), floor_eq _ _ (by unfold I64; omega) (by omega) (by omega)]
    simp only [Option.bind_some]
    simp (disch := omega) only [w64, td_pos]
    have e := era_eq (y - 1)
    congr 1
    unfold dnum dby
    rcases (by omega : m = 1 ∨ m = 2) with e | e <;> subst e <;> simp [cum] <;> omega
  · rw [if_neg hm, floor_eq _ _ (by unfold I64; omega) (by omega) (by omega)]
    simp only [Option.bind_some]
    simp (disch := omega) only [w64, td_pos]
    have e := era_eq y
    have e2 := dby_succ y
    have e3 : dby (y + 1) = 365 * (y - 1999) + y / 4 - y / 100 + y / 400 - 484 := by unfold dby; omega
    congr 1
    unfold dnum
    have : cum y m = (153 * (m - 3) + 2) / 5 + 59 + lp y := by
      rcases (by omega : m = 3 ∨ m = 4 ∨ m = 5 ∨ m = 6 ∨ m = 7 ∨ m = 8 ∨ m = 9 ∨ m = 10 ∨ m = 11 ∨ m = 12) with e | e | e | e | e | e | e | e | e | e <;> subst e <;> simp [cum]
    omega
theorem firstday_eq : civil_First.f = some (-2453698) := by
  unfold civil_First.f
  rw [day_eq _ _ _ (by omega) (by omega) (by omega) (by omega) (by omega) (by omega)]
  rfl
theorem lastday_eq : civil_Last.f = some 106754173 := by
  unfold civil_Last.f
  rw [day_eq _ _ _ (by omega) (by omega) (by omega) (by omega) (by omega) (by omega)]
  rfl
instance (n : Int) : Decidable (CanDay n) := inferInstanceAs (Decidable (_ ∧ _))
theorem can_eq (n : Int) : civil_can.f n = some (decide (CanDay n)) := by
  unfold civil_can.f
  rw [firstday_eq]
  simp only [Option.bind_some]
  by_cases h : n ≥ -2453698
  · rw [if_pos h, lastday_eq]
    simp only [Option.bind_some]
    congr 1
    apply decide_eq_decide.2
    unfold CanDay
    omega
  · rw [if_neg h, decide_eq_false (by unfold CanDay; omega)]
theorem march {n e c f k r : Int} (hc : 0 ≤ c ∧ c ≤ 3) (hf : 0 ≤ f ∧ f ≤ 24) (hk : 0 ≤ k ∧ k ≤ 3) (hn : n + 730425 = 146097 * e + 36524 * c + 1461 * f + 365 * k + r) :
    dby (400 * e + 100 * c + 4 * f + k + 1) = n + 306 - r := by unfold dby; omega
theorem march_leap {e c f : Int} (hc : 0 ≤ c ∧ c ≤ 3) (hf : 0 ≤ f ∧ f ≤ 24) (h : f < 24 ∨ c = 3) : lp (400 * e + 100 * c + 4 * f + 3 + 1) = 1 := by
  unfold lp; rw [if_pos (by omega)]
theorem parts_eq {n y m d : Int} (h : IsDate n y m d) (hb : -2000000000 ≤ n ∧ n ≤ 2000000000) : civil_parts.f n = some (y, m, d) := by
  unfold civil_parts.f
  rw [w64 (x := n + 730425) (by omega) (by omega), floor_eq _ _ (by unfold I64; omega) (by omega) (by omega)]
  simp only [Option.bind_some]
  have hn : n + 730425 = 146097 * ((n + 730425) / 146097) + (n + 730425) % 146097 := by omega
  have h0 : 0 ≤ (n + 730425) % 146097 ∧ (n + 730425) % 146097 < 146097 := by omega
  have he : -20000 ≤ (n + 730425) / 146097 ∧ (n + 730425) / 146097 ≤ 20000 := by omega
  generalize (n + 730425) / 146097 = e at *
  generalize (n + 730425) % 146097 = r0 at *
  rw [td_pos (a := r0) h0.1, w64 (x := r0 / 36524) (by omega) (by omega)]
  have hc : 0 ≤ mn (r0 / 36524) 3 ∧ mn (r0 / 36524) 3 ≤ 3 ∧ 0 ≤ r0 - mn (r0 / 36524) 3 * 36524 ∧ r0 - mn (r0 / 36524) 3 * 36524 ≤ 36524 ∧ (r0 - mn (r0 / 36524) 3 * 36524 = 36524 → mn (r0 / 36524) 3 = 3) := by
    unfold mn; split <;> omega
  generalize mn (r0 / 36524) 3 = c at *
  obtain ⟨hc0, hc1, hc2, hc3, hc4⟩ := hc
  rw [w64 (x := c * 36524) (by omega) (by omega), w64 (x := r0 - c * 36524) (by omega) (by omega)]
  obtain ⟨r1, hr1⟩ : ∃ r1, r1 = r0 - c * 36524 := ⟨_, rfl⟩
  rw [← hr1] at hc2 hc3 hc4 ⊢
  rw [td_pos (a := r1) hc2, w64 (x := r1 / 1461) (by omega) (by omega)]
  have hf : 0 ≤ r1 / 1461 ∧ r1 / 1461 ≤ 24 ∧ 0 ≤ r1 - r1 / 1461 * 1461 ∧ r1 - r1 / 1461 * 1461 ≤ 1460 ∧ (r1 - r1 / 1461 * 1461 = 1460 → r1 / 1461 < 24 ∨ c = 3) := by omega
  generalize r1 / 1461 = f at *
  obtain ⟨hf0, hf1, hf2, hf3, hf4⟩ := hf
  rw [w64 (x := f * 1461) (by omega) (by omega), w64 (x := r1 - f * 1461) (by omega) (by omega)]
  obtain ⟨r2, hr2⟩ : ∃ r2, r2 = r1 - f * 1461 := ⟨_, rfl⟩
  rw [← hr2] at hf2 hf3 hf4 ⊢
  rw [td_pos (a := r2) hf2, w64 (x := r2 / 365) (by omega) (by omega)]
  have hk : 0 ≤ mn (r2 / 365) 3 ∧ mn (r2 / 365) 3 ≤ 3 ∧ 0 ≤ r2 - mn (r2 / 365) 3 * 365 ∧ (r2 - mn (r2 / 365) 3 * 365 ≤ 364 ∨ r2 - mn (r2 / 365) 3 * 365 = 365 ∧ r2 = 1460 ∧ mn (r2 / 365) 3 = 3) := by
    unfold mn; split <;> omega
  generalize mn (r2 / 365) 3 = k at *
  obtain ⟨hk0, hk1, hk2, hk3⟩ := hk
  rw [w64 (x := k * 365) (by omega) (by omega), w64 (x := r2 - k * 365) (by omega) (by omega)]
  obtain ⟨r3, hr3⟩ : ∃ r3, r3 = r2 - k * 365 := ⟨_, rfl⟩
  rw [← hr3] at hk2 hk3 ⊢
  have hn' : n + 730425 = 146097 * e + 36524 * c + 1461 * f + 365 * k + r3 := by omega
  have hY := march ⟨hc0, hc1⟩ ⟨hf0, hf1⟩ ⟨hk0, hk1⟩ hn'
  have hL : r3 = 365 → lp (400 * e + 100 * c + 4 * f + k + 1) = 1 := by
    intro hr
    have e1 : k = 3 := by omega
    subst e1
    exact march_leap ⟨hc0, hc1⟩ ⟨hf0, hf1⟩ (by omega)
  have hlb := lp_01 (400 * e + 100 * c + 4 * f + k + 1)
  have hY2 := dby_succ (400 * e + 100 * c + 4 * f + k)
  have h365 : r3 ≤ 365 := by omega
  clear hr1 hr2 hr3 hn' hn hk3 hf4 hc4
  rw [w64 (x := 5 * r3) (by omega) (by omega), w64 (x := 5 * r3 + 2) (by omega) (by omega), td_pos (a := 5 * r3 + 2) (by omega), w64 (x := (5 * r3 + 2) / 153) (by omega) (by omega)]
  have hm : 0 ≤ (5 * r3 + 2) / 153 ∧ (5 * r3 + 2) / 153 ≤ 11 ∧ 153 * ((5 * r3 + 2) / 153) ≤ 5 * r3 + 2 ∧ 5 * r3 + 2 < 153 * ((5 * r3 + 2) / 153) + 153 := by omega
  generalize (5 * r3 + 2) / 153 = m' at *
  obtain ⟨hm0, hm1, hm2, hm3⟩ := hm
  rw [w64 (x := e * 400) (by omega) (by omega), w64 (x := c * 100) (by omega) (by omega), w64 (x := f * 4) (by omega) (by omega), w64 (x := e * 400 + c * 100) (by omega) (by omega), w64 (x := e * 400 + c * 100 + f * 4) (by omega) (by omega), w64 (x := e * 400 + c * 100 + f * 4 + k) (by omega) (by omega)]
  rw [w64 (x := 153 * m') (by omega) (by omega), w64 (x := 153 * m' + 2) (by omega) (by omega), td_pos (a := 153 * m' + 2) (by omega), w64 (x := (153 * m' + 2) / 5) (by omega) (by omega), w64 (x := r3 - (153 * m' + 2) / 5) (by omega) (by omega), w64 (x := r3 - (153 * m' + 2) / 5 + 1) (by omega) (by omega)]
  have ey : e * 400 + c * 100 + f * 4 + k = 400 * e + 100 * c + 4 * f + k := by omega
  rw [ey]
  have hyb : -9000000 ≤ 400 * e + 100 * c + 4 * f + k ∧ 400 * e + 100 * c + 4 * f + k ≤ 9000000 := by omega
  clear ey hc0 hc1 hc2 hc3 hf0 hf1 hf2 hf3 hk0 hk1 he h0
  generalize 400 * e + 100 * c + 4 * f + k = Y at *
  by_cases hge : m' ≥ 10
  · rw [if_pos hge, w64 (x := Y + 1) (by omega) (by omega), w64 (x := m' - 9) (by omega) (by omega)]
    have key : IsDate n (Y + 1) (m' - 9) (r3 - (153 * m' + 2) / 5 + 1) := by
      rcases (by omega : m' = 10 ∨ m' = 11) with e1 | e1 <;> subst e1
      · exact ⟨by omega, by omega, by omega, by simp [mlen]; omega, by simp [dnum, cum]; omega⟩
      · refine ⟨by omega, by omega, by omega, ?_, by simp [dnum, cum]; omega⟩
        simp only [mlen]
        by_cases g : r3 = 365
        · rw [hL g, g]; decide
        · rw [if_neg (by omega), if_pos (by omega)]; omega
    obtain ⟨rfl, rfl, rfl⟩ := h.unique key
    rfl
  · rw [if_neg hge, w64 (x := m' + 3) (by omega) (by omega)]
    have key : IsDate n Y (m' + 3) (r3 - (153 * m' + 2) / 5 + 1) := by
      rcases (by omega : m' = 0 ∨ m' = 1 ∨ m' = 2 ∨ m' = 3 ∨ m' = 4 ∨ m' = 5 ∨ m' = 6 ∨ m' = 7 ∨ m' = 8 ∨ m' = 9) with e1 | e1 | e1 | e1 | e1 | e1 | e1 | e1 | e1 | e1 <;> subst e1 <;>
        exact ⟨by omega, by omega, by omega, by simp [mlen]; omega, by simp [dnum, cum]; omega⟩
    obtain ⟨rfl, rfl, rfl⟩ := h.unique key
    rfl
theorem date_eq {n y m d : Int} (h : IsDate n y m d) (hc : CanDay n) : civil_Date.f n = some (y, m, d, 0) := by
  unfold civil_Date.f
  rw [can_eq]
  simp only [Option.bind_some, decide_eq_true_eq]
  have hc' := hc
  unfold CanDay at hc'
  rw [if_pos hc, parts_eq h (by omega)]
  rfl
theorem date_no {n : Int} (hc : ¬ CanDay n) : civil_Date.f n = some (0, 0, 0, 10) := by
  unfold civil_Date.f
  rw [can_eq]
  simp only [Option.bind_some, decide_eq_true_eq]
  rw [if_neg hc]
end Go.Proofs.YthkmckmfgglafaaGreat.Civ
namespace Go.Proofs.YthkmckmfgglafaaGreat.Civ
set_option linter.unusedVariables false
set_option linter.unusedSimpArgs false
open Go.RowKit Go.Proofs.YthkmckmfgglafaaGreatW.PrintWords Go.Proofs.YthkmckmfgglafaaGreatW.PrintLast Go.Proofs.YthkmckmfgglafaaGreatW.PrintMore Go.Proofs.YthkmckmfgglafaaGreat.P
theorem rmod_eq (a b : Int) (hb : 0 < b) (hb2 : b ≤ 4611686018427387904) : computusref02_mod.f a b = some (a % b) := by
  have c := cut_floor a (b := b) (by omega)
  have h1 := Int.emod_nonneg a (b := b) (by omega)
  have h2 := Int.emod_lt_of_pos a (b := b) (by omega)
  unfold computusref02_mod.f
  rw [if_neg (by omega)]
  by_cases h : Int.tmod a b < 0
  · obtain ⟨c1, c2, _⟩ := c.1 h
    rw [if_pos h, c2, w64 (by omega) (by omega)]
    congr 1; omega
  · obtain ⟨c1, c2⟩ := c.2 h
    rw [if_neg h, c2]
theorem rdiv_eq (a b : Int) (ha : I64 a) (hb : 1 < b) (hb2 : b ≤ 4611686018427387904) : computusref02_div.f a b = some (a / b) := by
  have e := floor_eq a b ha hb hb2
  unfold civil_floor.f at e
  unfold computusref02_div.f
  rw [if_neg (by omega)] at e ⊢
  by_cases h : Int.tmod a b < 0
  · rw [if_pos h] at e ⊢; injection e with e; injection e with e1 _; rw [e1]
  · rw [if_neg h] at e ⊢; injection e with e; injection e with e1 _; rw [e1]
theorem rleap_eq (y : Int) : computusref02_Leap.f y = some (decide (lp y = 1)) := by
  unfold computusref02_Leap.f
  rw [rmod_eq _ _ (by omega) (by omega), rmod_eq _ _ (by omega) (by omega), rmod_eq _ _ (by omega) (by omega)]
  simp only [Option.bind_some]
  have e : (y % 400 == 0) = decide (y % 400 = 0) := rfl
  rw [e]
  unfold lp
  by_cases h1 : y % 4 = 0
  · rw [if_pos h1]
    by_cases h2 : y % 100 = 0
    · rw [if_pos h2]
      by_cases h3 : y % 400 = 0 <;> simp [h1, h2, h3]
    · rw [if_neg h2]; simp [h1, h2]
  · rw [if_neg h1]; simp [h1]
theorem rlen_eq (k : Nat) (y m : Int) : computusref02_Len.f (k + 2) y m = some (mlen y m) := by
  have hl := lp_01 y
  by_cases h : m < 1 ∨ 12 < m
  · rw [mlen_out y m h]
    unfold computusref02_Len.f
    rw [if_neg (by omega), if_neg (by omega), if_neg (by omega), if_neg (by omega), if_neg (by omega), if_neg (by omega), beq_eq_false_iff_ne.2 (by omega : m ≠ 12)]
    simp only [computusref02_Len.j0]
    rw [if_neg (by simp), if_neg (by omega), if_neg (by omega), if_neg (by omega), beq_eq_false_iff_ne.2 (by omega : m ≠ 11)]
    simp only [computusref02_Len.j1]
    rw [if_neg (by simp), if_neg (by omega)]
  · rcases twelve (m := m) (by omega) (by omega) with e | e | e | e | e | e | e | e | e | e | e | e <;> subst e <;> simp [computusref02_Len.f, computusref02_Len.j0, computusref02_Len.j1, mlen, rleap_eq]
    by_cases h3 : lp y = 1
    · rw [if_pos h3, h3]; rfl
    · rw [if_neg h3, show lp y = 0 by omega]; rfl
theorem rlen_ev (y m : Int) : Ev (fun k => computusref02_Len.f k y m) (mlen y m) := Ev.at2 fun k => rlen_eq k y m
theorem rstart_loop (y : Int) (hy : -100000000 ≤ y ∧ y ≤ 100000000) (d : Nat) : ∀ i n : Int, 0 ≤ i → i ≤ (y - 2000) % 400 → (y - 2000) % 400 - i = d → n = dby (2000 + i) + 146097 * ((y - 2000) / 400) →
    Ev (fun k => computusref02_start.l0 k y n i) (dby y) := by
  induction d with
  | zero =>
    intro i n h0 h1 hd hn
    refine Ev.at1 fun k => ?_
    simp only [computusref02_start.l0]
    rw [w64 (by omega) (by omega), rmod_eq _ _ (by omega) (by omega)]
    simp only [Option.bind_some]
    rw [if_neg (by omega)]
    congr 1
    rw [hn, ← dby_era, show 2000 + i + 400 * ((y - 2000) / 400) = y by omega]
  | succ d ih =>
    intro i n h0 h1 hd hn
    have hs := dby_succ (2000 + i)
    have hb : -1000000 ≤ dby (2000 + i) ∧ dby (2000 + i) ≤ 1000000 := by
      have a := dby_far 2000 (2000 + i) (by omega)
      have b := dby_near 2000 (2000 + i) (by omega)
      have c : dby 2000 = 0 := by decide
      omega
    have hl := lp_01 (2000 + i)
    refine Ev.step (f := fun k => computusref02_start.l0 k y (n + 365 + lp (2000 + i)) (i + 1)) (fun k => ?_) (ih (i + 1) _ (by omega) (by omega) (by omega) ?_)
    · simp only [computusref02_start.l0]
      rw [w64 (x := y - 2000) (by omega) (by omega), rmod_eq _ _ (by omega) (by omega)]
      simp only [Option.bind_some]
      rw [if_pos (by omega), w64 (x := 2000 + i) (by omega) (by omega), rleap_eq]
      simp only [Option.bind_some, decide_eq_true_eq]
      rw [w64 (x := i + 1) (by omega) (by omega), w64 (x := n + 365) (by omega) (by omega)]
      by_cases hp : lp (2000 + i) = 1
      · rw [if_pos hp, w64 (by omega) (by omega), hp]
      · rw [if_neg hp, show lp (2000 + i) = 0 by omega, Int.add_zero]
    · rw [show 2000 + (i + 1) = 2000 + i + 1 by omega, hs]; omega
theorem rstart_ev (y : Int) (hy : -100000000 ≤ y ∧ y ≤ 100000000) : Ev (fun k => computusref02_start.f k y) (dby y) := by
  unfold computusref02_start.f
  rw [w64 (by omega) (by omega), rdiv_eq _ _ (by unfold I64; omega) (by omega) (by omega)]
  simp only [Option.bind_some]
  refine rstart_loop y hy ((y - 2000) % 400).toNat 0 _ (by omega) (by omega) (by omega) ?_
  rw [w64 (by omega) (by omega)]
  have c : dby (2000 + 0) = 0 := by decide
  omega
theorem rday_loop (y m : Int) (hm : m ≤ 12) (d : Nat) : ∀ i n : Int, 1 ≤ i → i ≤ m → m - i = d → -1000000000000 ≤ n ∧ n ≤ 1000000000000 + 31 * i →
    Ev (fun k => computusref02_day.l0 k y m n i) (n + cum y m - cum y i) := by
  induction d with
  | zero =>
    intro i n h0 h1 hd hn
    refine Ev.at1 fun k => ?_
    simp only [computusref02_day.l0]
    rw [if_neg (by omega)]
    congr 1
    have : i = m := by omega
    subst this; omega
  | succ d ih =>
    intro i n h0 h1 hd hn
    have hc := cum_succ y i h0 (by omega)
    have hl := mlen_bd y i h0 (by omega)
    refine Ev.step (f := fun k => (computusref02_Len.f k y i).bind fun t => computusref02_day.l0 k y m (wrap64 (n + t)) (wrap64 (i + 1))) (fun k => ?_) (Ev.bind (rlen_ev y i) ?_)
    · simp only [computusref02_day.l0]
      rw [if_pos (by omega)]
    · rw [w64 (x := n + mlen y i) (by omega) (by omega), w64 (x := i + 1) (by omega) (by omega)]
      exact Ev.cast (ih (i + 1) _ (by omega) (by omega) (by omega) (by omega)) (by omega)
theorem dby_bd (y : Int) (hy : -100000000 ≤ y ∧ y ≤ 100000000) : -40000000000 ≤ dby y ∧ dby y ≤ 40000000000 := by
  have c : dby 2000 = 0 := by decide
  rcases Int.le_total y 2000 with h | h
  · have a := dby_far y 2000 h
    have b := dby_near y 2000 h
    omega
  · have a := dby_far 2000 y h
    have b := dby_near 2000 y h
    omega
theorem rday_ev (y m d : Int) (hy : -100000000 ≤ y ∧ y ≤ 100000000) (h1 : 1 ≤ m) (h2 : m ≤ 12) (hd : -1000 ≤ d ∧ d ≤ 1000) : Ev (fun k => computusref02_day.f k y m d) (dnum y m d) := by
  have hb := dby_bd y hy
  unfold computusref02_day.f
  refine Ev.bind (rstart_ev y hy) ?_
  rw [w64 (x := dby y + d) (by omega) (by omega), w64 (by omega) (by omega)]
  refine Ev.cast (rday_loop y m h2 (m - 1).toNat 1 _ (by omega) (by omega) (by omega) (by omega)) ?_
  unfold dnum
  rw [cum_one]; omega
theorem rfirst_ev : Ev (fun k => computusref02_First.f k) (-2453698) := by
  unfold computusref02_First.f
  exact Ev.bind (rday_ev _ _ _ (by omega) (by omega) (by omega) (by omega)) (Ev.now _)
theorem rlast_ev : Ev (fun k => computusref02_Last.f k) 106754173 := by
  unfold computusref02_Last.f
  exact Ev.bind (rday_ev _ _ _ (by omega) (by omega) (by omega) (by omega)) (Ev.now _)
theorem rcan_ev (n : Int) : Ev (fun k => computusref02_Can.f k n) (decide (CanDay n)) := by
  unfold computusref02_Can.f
  refine Ev.bind rfirst_ev ?_
  by_cases h : n ≥ -2453698
  · simp only [if_pos h]
    refine Ev.bind rlast_ev ?_
    have e : decide (n ≤ 106754173) = decide (CanDay n) := decide_eq_decide.2 (by unfold CanDay; omega)
    rw [e]; exact Ev.now _
  · simp only [if_neg h]
    rw [decide_eq_false (by unfold CanDay; omega : ¬ CanDay n)]; exact Ev.now _
theorem rdate_months (y : Int) (left : Int) (m d : Int) (h12 : m ≤ 12) (hd0 : 1 ≤ d) (hd1 : d ≤ mlen y m) (j : Nat) : ∀ i l : Int, 1 ≤ i → i ≤ m → m - i = j → l = cum y m + d - 1 - cum y i →
    Ev (fun k => computusref02_Date.l1 k y l i) (y, m, d, 0) := by
  induction j with
  | zero =>
    intro i l h0 h1 hj hl
    have e : i = m := by omega
    subst e
    refine Ev.step (f := fun k => (computusref02_Len.f k y i).bind fun t => if l ≥ t then (computusref02_Len.f k y i).bind fun t' => computusref02_Date.l1 k y (wrap64 (l - t')) (wrap64 (i + 1)) else some (y, i, wrap64 (l + 1), 0)) (fun k => by simp only [computusref02_Date.l1]) (Ev.bind (rlen_ev y i) ?_)
    have hb := mlen_bd y i h0 h12
    simp only [if_neg (show ¬ l ≥ mlen y i by omega)]
    rw [w64 (by omega) (by omega), show l + 1 = d by omega]
    exact Ev.now _
  | succ j ih =>
    intro i l h0 h1 hj hl
    have hb := mlen_bd y i h0 (by omega)
    have hb2 := mlen_bd y m (by omega) h12
    have hcm := cum_bd y m (by omega) h12
    have hci := cum_bd y i h0 (by omega)
    have hlp := lp_01 y
    have hst := cum_step y i m h0 (by omega) h12
    have hs := cum_succ y i h0 (by omega)
    refine Ev.step (f := fun k => (computusref02_Len.f k y i).bind fun t => if l ≥ t then (computusref02_Len.f k y i).bind fun t' => computusref02_Date.l1 k y (wrap64 (l - t')) (wrap64 (i + 1)) else some (y, i, wrap64 (l + 1), 0)) (fun k => by simp only [computusref02_Date.l1]) (Ev.bind (rlen_ev y i) ?_)
    simp only [if_pos (show l ≥ mlen y i by omega)]
    refine Ev.bind (rlen_ev y i) ?_
    rw [w64 (x := l - mlen y i) (by omega) (by omega), w64 (x := i + 1) (by omega) (by omega)]
    exact ih (i + 1) _ (by omega) (by omega) (by omega) (by omega)
theorem rdate_years {n y m d : Int} (h : IsDate n y m d) (hy : -100000000 ≤ y ∧ y ≤ 100000000) (j : Nat) : ∀ i l : Int, i ≤ y → -200000000 ≤ i → y - i = j → dby i + l = n → l ≤ 10000000 →
    Ev (fun k => computusref02_Date.l0 k i l) (y, m, d, 0) := by
  have hh := h.year
  have hs := dby_succ y
  have hl := lp_01 y
  have hm := h.m1
  have hm2 := h.m12
  have hnum := h.num
  unfold dnum at hnum
  have hcm := cum_bd y m hm hm2
  induction j with
  | zero =>
    intro i l h0 h00 hj hn hle
    have e : i = y := by omega
    subst e
    refine Ev.step (f := fun k => computusref02_Date.j1 k i l) (fun k => ?_) (Ev.step (f := fun k => computusref02_Date.l1 k i l 1) (fun k => by simp only [computusref02_Date.j1]) (rdate_months i l m d hm2 h.d1 h.dl (m - 1).toNat 1 l (by omega) hm (by omega) (by rw [cum_one]; omega)))
    simp only [computusref02_Date.l0]
    rw [rleap_eq]
    simp only [Option.bind_some, decide_eq_true_eq]
    by_cases hp : lp i = 1
    · rw [if_pos hp, if_pos (by omega)]
    · rw [if_neg hp, if_pos (by omega)]
  | succ j ih =>
    intro i l h0 h00 hj hn hle
    have hsi := dby_succ i
    have hli := lp_01 i
    have hf := dby_far (i + 1) y (by omega)
    refine Ev.step (f := fun k => computusref02_Date.l0 k (i + 1) (l - 365 - lp i)) (fun k => ?_) (ih (i + 1) _ (by omega) (by omega) (by omega) (by omega) (by omega))
    simp only [computusref02_Date.l0]
    rw [rleap_eq]
    simp only [Option.bind_some, decide_eq_true_eq]
    by_cases hp : lp i = 1
    · rw [if_pos hp, if_neg (by omega), w64 (x := i + 1) (by omega) (by omega), w64 (x := l - 366) (by omega) (by omega), show l - 366 = l - 365 - lp i by omega]
    · rw [if_neg hp, if_neg (by omega), w64 (x := i + 1) (by omega) (by omega), w64 (x := l - 365) (by omega) (by omega), show lp i = 0 by omega, Int.sub_zero]
theorem rdate_ev {n y m d : Int} (h : IsDate n y m d) (hc : CanDay n) : Ev (fun k => computusref02_Date.f k n) (y, m, d, 0) := by
  have hy := (can_of_year h).1 hc
  have hyr := h.year
  unfold computusref02_Date.f
  refine Ev.bind (rcan_ev n) ?_
  simp only [decide_eq_true_eq, if_pos hc]
  unfold CanDay at hc
  rw [rdiv_eq _ _ (by unfold I64; omega) (by omega) (by omega), rmod_eq _ _ (by omega) (by omega)]
  simp only [Option.bind_some]
  rw [w64 (x := n / 146097 * 400) (by omega) (by omega), w64 (by omega) (by omega)]
  have e : dby (2000 + n / 146097 * 400) = n / 146097 * 146097 := by
    have := dby_era 2000 (n / 146097)
    have c : dby 2000 = 0 := by decide
    rw [show 2000 + n / 146097 * 400 = 2000 + 400 * (n / 146097) by omega, this, c]; omega
  have hle : 2000 + n / 146097 * 400 ≤ y := by
    rcases Int.lt_or_le y (2000 + n / 146097 * 400) with g | g
    · have := dby_far (y + 1) (2000 + n / 146097 * 400) (by omega)
      omega
    · exact g
  exact rdate_years h (by omega) (y - (2000 + n / 146097 * 400)).toNat _ _ hle (by omega) (by omega) (by rw [e]; omega) (by omega)
theorem rdate_no {n : Int} (hc : ¬ CanDay n) : Ev (fun k => computusref02_Date.f k n) (0, 0, 0, 10) := by
  unfold computusref02_Date.f
  refine Ev.bind (rcan_ev n) ?_
  simp only [decide_eq_true_eq, if_neg hc]
  exact Ev.now _
end Go.Proofs.YthkmckmfgglafaaGreat.Civ
