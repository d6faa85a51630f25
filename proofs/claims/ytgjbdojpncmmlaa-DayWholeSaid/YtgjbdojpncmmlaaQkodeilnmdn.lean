-- Written by a program of the session (a print of the seat's translation, functions given by hand among it). Lean checks it.
import Derived.Test.YtgjbdojpncmmlaaQkegnhodiek
import Derived.Test.YtgjbdojpncmmlaaQeoehkkdcgk
import Derived.Test.YtgjbdojpncmmlaaQfkpfdkojjp
import Derived.Test.YtgjbdojpncmmlaaQgbdnfccpna
namespace Go.Proofs.Ytgjbdojpncmmlaa.P
open Go.RowKit Go.Proofs.YtgjbdojpncmmlaaW.PrintWords Go.Proofs.YtgjbdojpncmmlaaW.PrintLast Go.Proofs.YtgjbdojpncmmlaaW.PrintMore
attribute [local go_sem] max2_int min2_int max_two min_two max_three min_three max_four min_four   -- for this text's walks alone
set_option linter.unusedVariables false
set_option linter.unusedSimpArgs false
def computuslaw15_known.f (k : Nat)  : Option (Bool) := (day_Make.f 2024 2 29).bind fun bt230 => ((day_Add.f bt230.1 bt230.2.1 1).bind fun bt234 => ((day_Parts.f bt234.1 bt234.2.1).bind fun bt238 => ((day_Of.f k 0 (-1)).bind fun bt242 => ((day_Make.f (-4713) 1 1).bind fun bt247 => (if bt230.2.1 = 8825 then (if bt230.2.2 = 0 then (if bt234.2.2 = 0 then (if bt238.1 = 2024 then (if bt238.2.1 = 3 then (if bt238.2.2.1 = 1 then (if bt238.2.2.2 = 0 then (if bt242.2.1 = (-1) then (if bt242.2.2.1 = 86399999999 then (if bt242.2.2.2 = 0 then (some (bt247.2.2 == 10)) else (some false)) else (some false)) else (some false)) else (some false)) else (some false)) else (some false)) else (some false)) else (some false)) else (some false)) else (some false))))))
theorem computuslaw15_known.mono : ∀ k, LeO (computuslaw15_known.f k ) (computuslaw15_known.f (k + 1) ) := by
  intro  k
  unfold computuslaw15_known.f
  repeat' first
      | (with_reducible exact day_Of.mono _ _ _)
      | (with_reducible exact LeO.refl _)
      | (with_reducible exact LeO.none _)
      | (with_reducible refine LeO.ite ?_ ?_)
      | (with_reducible refine LeO.bind ?_ (fun _ => ?_))
      | exact day_Of.mono _ _ _
      | exact LeO.none _
      | refine LeO.ite ?_ ?_
      | refine LeO.bind ?_ (fun _ => ?_)
set_option maxHeartbeats 8000000 in
set_option maxRecDepth 100000 in
theorem computuslaw15_known.calls (k : Nat)  (r : Bool) (w : World) (h : computuslaw15_known.f k  = some r) (hR : r = true) :
    Calls Try.prog 15 #[] w fun e w' => e = .returned (.bool r) ∧ Below w.heap.size w w' := by
  have HRT := Aside0.mk hR
  clear hR
  have hu23 := Try.underlying23
  have hu33 := Try.underlying33
  have HB := Aside0.mk (Below.refl w.heap.size w)
  have H : ((day_Make.f 2024 2 29).bind fun bt230 => ((day_Add.f bt230.1 bt230.2.1 1).bind fun bt234 => ((day_Parts.f bt234.1 bt234.2.1).bind fun bt238 => ((day_Of.f k 0 (-1)).bind fun bt242 => ((day_Make.f (-4713) 1 1).bind fun bt247 => (if bt230.2.1 = 8825 then (if bt230.2.2 = 0 then (if bt234.2.2 = 0 then (if bt238.1 = 2024 then (if bt238.2.1 = 3 then (if bt238.2.2.1 = 1 then (if bt238.2.2.2 = 0 then (if bt242.2.1 = (-1) then (if bt242.2.2.1 = 86399999999 then (if bt242.2.2.2 = 0 then (some (bt247.2.2 == 10)) else (some false)) else (some false)) else (some false)) else (some false)) else (some false)) else (some false)) else (some false)) else (some false)) else (some false)) else (some false))))))) = some r := h
  clear h
  replace H := Option.bind_eq_some_iff.mp H
  obtain ⟨⟨t230, t231, t232⟩, A10, H⟩ := H
  replace H : ((day_Add.f t230 t231 1).bind fun bt234 => ((day_Parts.f bt234.1 bt234.2.1).bind fun bt238 => ((day_Of.f k 0 (-1)).bind fun bt242 => ((day_Make.f (-4713) 1 1).bind fun bt247 => (if t231 = 8825 then (if t232 = 0 then (if bt234.2.2 = 0 then (if bt238.1 = 2024 then (if bt238.2.1 = 3 then (if bt238.2.2.1 = 1 then (if bt238.2.2.2 = 0 then (if bt242.2.1 = (-1) then (if bt242.2.2.1 = 86399999999 then (if bt242.2.2.2 = 0 then (some (bt247.2.2 == 10)) else (some false)) else (some false)) else (some false)) else (some false)) else (some false)) else (some false)) else (some false)) else (some false)) else (some false)) else (some false)))))) = some r := H
  have A1 := Aside0.mk A10
  clear A10
  replace H := Option.bind_eq_some_iff.mp H
  obtain ⟨⟨t234, t235, t236⟩, A20, H⟩ := H
  replace H : ((day_Parts.f t234 t235).bind fun bt238 => ((day_Of.f k 0 (-1)).bind fun bt242 => ((day_Make.f (-4713) 1 1).bind fun bt247 => (if t231 = 8825 then (if t232 = 0 then (if t236 = 0 then (if bt238.1 = 2024 then (if bt238.2.1 = 3 then (if bt238.2.2.1 = 1 then (if bt238.2.2.2 = 0 then (if bt242.2.1 = (-1) then (if bt242.2.2.1 = 86399999999 then (if bt242.2.2.2 = 0 then (some (bt247.2.2 == 10)) else (some false)) else (some false)) else (some false)) else (some false)) else (some false)) else (some false)) else (some false)) else (some false)) else (some false)) else (some false))))) = some r := H
  have A2 := Aside0.mk A20
  clear A20
  replace H := Option.bind_eq_some_iff.mp H
  obtain ⟨⟨t238, t239, t240, t241⟩, A30, H⟩ := H
  replace H : ((day_Of.f k 0 (-1)).bind fun bt242 => ((day_Make.f (-4713) 1 1).bind fun bt247 => (if t231 = 8825 then (if t232 = 0 then (if t236 = 0 then (if t238 = 2024 then (if t239 = 3 then (if t240 = 1 then (if t241 = 0 then (if bt242.2.1 = (-1) then (if bt242.2.2.1 = 86399999999 then (if bt242.2.2.2 = 0 then (some (bt247.2.2 == 10)) else (some false)) else (some false)) else (some false)) else (some false)) else (some false)) else (some false)) else (some false)) else (some false)) else (some false)) else (some false)))) = some r := H
  have A3 := Aside0.mk A30
  clear A30
  replace H := Option.bind_eq_some_iff.mp H
  obtain ⟨⟨t242, t243, t244, t245⟩, A40, H⟩ := H
  replace H : ((day_Make.f (-4713) 1 1).bind fun bt247 => (if t231 = 8825 then (if t232 = 0 then (if t236 = 0 then (if t238 = 2024 then (if t239 = 3 then (if t240 = 1 then (if t241 = 0 then (if t243 = (-1) then (if t244 = 86399999999 then (if t245 = 0 then (some (bt247.2.2 == 10)) else (some false)) else (some false)) else (some false)) else (some false)) else (some false)) else (some false)) else (some false)) else (some false)) else (some false)) else (some false))) = some r := H
  have A4 := Aside0.mk A40
  clear A40
  replace H := Option.bind_eq_some_iff.mp H
  obtain ⟨⟨t247, t248, t249⟩, A50, H⟩ := H
  replace H : (if t231 = 8825 then (if t232 = 0 then (if t236 = 0 then (if t238 = 2024 then (if t239 = 3 then (if t240 = 1 then (if t241 = 0 then (if t243 = (-1) then (if t244 = 86399999999 then (if t245 = 0 then (some (t249 == 10)) else (some false)) else (some false)) else (some false)) else (some false)) else (some false)) else (some false)) else (some false)) else (some false)) else (some false)) else (some false)) = some r := H
  have A5 := Aside0.mk A50
  clear A50
  by_cases c6 : t231 = 8825
  · rw [if_pos c6] at H
    have c6b0 : (t231 == 8825) = true := beq_iff_eq.mpr c6
    have c6b1 : (t231 != 8825) = false := bne_eq_false_iff_eq.mpr c6
    clear c6
    by_cases c7 : t232 = 0
    · rw [if_pos c7] at H
      have c7b0 : (t232 == 0) = true := beq_iff_eq.mpr c7
      have c7b1 : (t232 != 0) = false := bne_eq_false_iff_eq.mpr c7
      clear c7
      by_cases c8 : t236 = 0
      · rw [if_pos c8] at H
        have c8b0 : (t236 == 0) = true := beq_iff_eq.mpr c8
        have c8b1 : (t236 != 0) = false := bne_eq_false_iff_eq.mpr c8
        clear c8
        by_cases c9 : t238 = 2024
        · rw [if_pos c9] at H
          have c9b0 : (t238 == 2024) = true := beq_iff_eq.mpr c9
          have c9b1 : (t238 != 2024) = false := bne_eq_false_iff_eq.mpr c9
          clear c9
          by_cases c10 : t239 = 3
          · rw [if_pos c10] at H
            have c10b0 : (t239 == 3) = true := beq_iff_eq.mpr c10
            have c10b1 : (t239 != 3) = false := bne_eq_false_iff_eq.mpr c10
            clear c10
            by_cases c11 : t240 = 1
            · rw [if_pos c11] at H
              have c11b0 : (t240 == 1) = true := beq_iff_eq.mpr c11
              have c11b1 : (t240 != 1) = false := bne_eq_false_iff_eq.mpr c11
              clear c11
              by_cases c12 : t241 = 0
              · rw [if_pos c12] at H
                have c12b0 : (t241 == 0) = true := beq_iff_eq.mpr c12
                have c12b1 : (t241 != 0) = false := bne_eq_false_iff_eq.mpr c12
                clear c12
                by_cases c13 : t243 = (-1)
                · rw [if_pos c13] at H
                  have c13b0 : (t243 == (-1)) = true := beq_iff_eq.mpr c13
                  have c13b1 : (t243 != (-1)) = false := bne_eq_false_iff_eq.mpr c13
                  clear c13
                  by_cases c14 : t244 = 86399999999
                  · rw [if_pos c14] at H
                    have c14b0 : (t244 == 86399999999) = true := beq_iff_eq.mpr c14
                    have c14b1 : (t244 != 86399999999) = false := bne_eq_false_iff_eq.mpr c14
                    clear c14
                    by_cases c15 : t245 = 0
                    · rw [if_pos c15] at H
                      have c15b0 : (t245 == 0) = true := beq_iff_eq.mpr c15
                      have c15b1 : (t245 != 0) = false := bne_eq_false_iff_eq.mpr c15
                      clear c15
                      obtain rfl := Option.some.inj H
                      go_enter Try.func15, Try.ntmps15
                      go_wp2_with (first | ((with_reducible refine kL (f := 9) rfl ?_); refine kO (some 15) rfl rfl Try.func9 (by kernel_rfl) rfl #[.int .i64 2024, .int .i64 2, .int .i64 29] rfl (by (try simp only [List.map_toArray, List.map_cons, List.map_nil]); first | done | rfl | (simp only [List.length_drop, List.length_take]; rfl)) ?_; (with_reducible refine (day_Make.calls 2024 2 29 t230 t231 t232 _ A1.out).mono ?_); rintro e w16 ⟨rfl, hb⟩; refine ⟨_, rfl, ?_⟩; have n0_ := Aside0.mk (kK (by repeat (first | (with_reducible first | exact HB.out | apply kC | apply kA | apply kB) | exact HB.out)) hb); clear HB; have HB := n0_; clear n0_; (try clear hb); (try clear hb2); (try clear hk); (try clear hi)) | ((with_reducible refine kP (N := 1) rfl ?_); refine kN ?hg (N := 1) ?hd (cs := #[.int .i64 0, .int .i64 0]) (t := 23) ?hr ?_; (case hd => rfl); (case hg => rfl); (case hr => first | (go_simp; done) | (go_simp; rfl)); intro gb233 hg w17 hbox hb; have n0_ := Aside0.mk (kK (by repeat (first | (with_reducible first | exact HB.out | apply kC | apply kA | apply kB) | exact HB.out)) hb); have n1_ := Aside0.mk (hbox); have n2_ := Aside0.mk ((by rw [hg]; exact (kJ (by repeat (first | (with_reducible first | exact HB.out | apply kC | apply kA | apply kB) | exact HB.out))) : w.heap.size ≤ gb233)); have n3_ := Aside0.mk ((by rw [hg]; exact (kJ (by repeat (first | (with_reducible first | exact HB.out | apply kC | apply kA | apply kB) | exact HB.out))) : w.heap.size ≤ gb233)); clear HB; have HB := n0_; have BK233 := n1_; have GW233 := n2_; have GE233 := n3_; clear n0_ n1_ n2_ n3_; clear hb hbox hg; have hcz18_0 : w17.cell? ⟨gb233, 0, none⟩ = some (.int .i64 0) := (kI BK233.out 0).trans rfl; have hcz18_1 : w17.cell? ⟨gb233, 1, none⟩ = some (.int .i64 0) := (kI BK233.out 1).trans rfl; have hfz18_0 := kH BK233.out 0; have hfz18_1 := kH BK233.out 1) | ((with_reducible refine kL (f := 19) rfl ?_); refine kO (some 20) rfl rfl Try.func19 (by kernel_rfl) rfl #[.agg #[.int .i64 t230, .int .i64 t231], .int .i64 1] rfl (by (try simp only [List.map_toArray, List.map_cons, List.map_nil]); first | done | rfl | (simp only [List.length_drop, List.length_take]; rfl)) ?_; (with_reducible refine (day_Add.calls t230 t231 1 t234 t235 t236 _ A2.out).mono ?_); rintro e w19 ⟨rfl, hb⟩; refine ⟨_, rfl, ?_⟩; have n0_ := Aside0.mk (kM (g := gb233) (o := .cells #[.int .i64 t230, .int .i64 t231] 23 (0, 0)) (by (with_reducible repeat (first | refine kE ?_ _ | refine kG ?_ | refine kF ?_ _)); refine kR (cs := #[.int .i64 t230, .int .i64 0]) ?_ 1 _ rfl; (with_reducible repeat (first | refine kE ?_ _ | refine kG ?_ | refine kF ?_ _)); refine kR (cs := #[.int .i64 0, .int .i64 0]) ?_ 0 _ rfl; (with_reducible repeat (first | refine kE ?_ _ | refine kG ?_ | refine kF ?_ _)); exact BK233.out) hb); have n1_ := Aside0.mk (kK (by repeat (first | (with_reducible first | exact HB.out | apply kC | apply kA | apply kB | refine kD ?_ GE233.out) | exact HB.out)) hb); clear BK233; clear HB; have BK233 := n0_; have HB := n1_; clear n0_ n1_; (try clear hb); (try clear hb2); (try clear hk); (try clear hi)) | ((with_reducible refine kP (N := 3) rfl ?_); refine kN ?hg (N := 3) ?hd (cs := #[.int .i64 0, .int .i64 0]) (t := 23) ?hr ?_; (case hd => rfl); (case hg => rfl); (case hr => first | (go_simp; done) | (go_simp; rfl)); intro gb237 hg w20 hbox hb; have n0_ := Aside0.mk (kM (g := gb233) (o := .cells #[.int .i64 t230, .int .i64 t231] 23 (0, 0)) (by (with_reducible repeat (first | refine kE ?_ _ | refine kG ?_ | refine kF ?_ _)); exact BK233.out) hb); have n1_ := Aside0.mk (kK (by repeat (first | (with_reducible first | exact HB.out | apply kC | apply kA | apply kB | refine kD ?_ GE233.out) | exact HB.out)) hb); have n2_ := Aside0.mk (hbox); have n3_ := Aside0.mk ((by rw [hg]; exact (kJ (by repeat (first | (with_reducible first | exact HB.out | apply kC | apply kA | apply kB | refine kD ?_ GE233.out) | exact HB.out))) : w.heap.size ≤ gb237)); have n4_ := Aside0.mk ((by rw [hg]; exact (kJ (by repeat (first | (with_reducible first | exact HB.out | apply kC | apply kA | apply kB | refine kD ?_ GE233.out) | exact HB.out))) : w.heap.size ≤ gb237)); have n5_ := Aside0.mk ((by rw [hg]; exact Nat.ne_of_lt (kQ (g := gb233) (o := .cells #[.int .i64 t230, .int .i64 t231] 23 (0, 0)) (by (with_reducible repeat (first | refine kE ?_ _ | refine kG ?_ | refine kF ?_ _)); exact BK233.out)) : gb233 ≠ gb237)); have n6_ := Aside0.mk ((by rw [hg]; exact Nat.ne_of_gt (kQ (g := gb233) (o := .cells #[.int .i64 t230, .int .i64 t231] 23 (0, 0)) (by (with_reducible repeat (first | refine kE ?_ _ | refine kG ?_ | refine kF ?_ _)); exact BK233.out)) : gb237 ≠ gb233)); clear BK233; clear HB; have BK233 := n0_; have HB := n1_; have BK237 := n2_; have GW237 := n3_; have GE237 := n4_; have NB233_237 := n5_; have NB237_233 := n6_; clear n0_ n1_ n2_ n3_ n4_ n5_ n6_; clear hb hbox hg; have hnb21 := NB237_233.out; have hnc21 := NB233_237.out; have hcz22_0 : w20.cell? ⟨gb237, 0, none⟩ = some (.int .i64 0) := (kI BK237.out 0).trans rfl; have hcz22_1 : w20.cell? ⟨gb237, 1, none⟩ = some (.int .i64 0) := (kI BK237.out 1).trans rfl; have hfz22_0 := kH BK237.out 0; have hfz22_1 := kH BK237.out 1) | ((with_reducible refine kL (f := 11) rfl ?_); refine kO (some 25) rfl rfl Try.func11 (by kernel_rfl) rfl #[.agg #[.int .i64 t234, .int .i64 t235]] rfl (by (try simp only [List.map_toArray, List.map_cons, List.map_nil]); first | done | rfl | (simp only [List.length_drop, List.length_take]; rfl)) ?_; (with_reducible refine (day_Parts.calls t234 t235 t238 t239 t240 t241 _ A3.out).mono ?_); rintro e w23 ⟨rfl, hb⟩; refine ⟨_, rfl, ?_⟩; have n0_ := Aside0.mk (kM (g := gb233) (o := .cells #[.int .i64 t230, .int .i64 t231] 23 (0, 0)) (by (with_reducible repeat (first | refine kE ?_ _ | refine kG ?_ | refine kF ?_ _)); refine blk_far ?_ NB233_237.out _; (with_reducible repeat (first | refine kE ?_ _ | refine kG ?_ | refine kF ?_ _)); refine blk_far ?_ NB233_237.out _; (with_reducible repeat (first | refine kE ?_ _ | refine kG ?_ | refine kF ?_ _)); exact BK233.out) hb); have n1_ := Aside0.mk (kM (g := gb237) (o := .cells #[.int .i64 t234, .int .i64 t235] 23 (0, 0)) (by (with_reducible repeat (first | refine kE ?_ _ | refine kG ?_ | refine kF ?_ _)); refine kR (cs := #[.int .i64 t234, .int .i64 0]) ?_ 1 _ rfl; (with_reducible repeat (first | refine kE ?_ _ | refine kG ?_ | refine kF ?_ _)); refine kR (cs := #[.int .i64 0, .int .i64 0]) ?_ 0 _ rfl; (with_reducible repeat (first | refine kE ?_ _ | refine kG ?_ | refine kF ?_ _)); exact BK237.out) hb); have n2_ := Aside0.mk (kK (by repeat (first | (with_reducible first | exact HB.out | apply kC | apply kA | apply kB | refine kD ?_ GE233.out | refine kD ?_ GE237.out) | exact HB.out)) hb); clear BK233; clear BK237; clear HB; have BK233 := n0_; have BK237 := n1_; have HB := n2_; clear n0_ n1_ n2_; (try clear hb); (try clear hb2); (try clear hk); (try clear hi)) | ((with_reducible refine kL (f := 16) rfl ?_); refine kO (some 32) rfl rfl Try.func16 (by kernel_rfl) rfl #[.agg #[.int .i64 0, .int .i64 (-1)]] rfl (by (try simp only [List.map_toArray, List.map_cons, List.map_nil]); first | done | rfl | (simp only [List.length_drop, List.length_take]; rfl)) ?_; (with_reducible refine (day_Of.calls k 0 (-1) t242 t243 t244 t245 _ A4.out).mono ?_); rintro e w24 ⟨rfl, hb⟩; refine ⟨_, rfl, ?_⟩; have n0_ := Aside0.mk (kM (g := gb233) (o := .cells #[.int .i64 t230, .int .i64 t231] 23 (0, 0)) (by (with_reducible repeat (first | refine kE ?_ _ | refine kG ?_ | refine kF ?_ _)); exact BK233.out) hb); have n1_ := Aside0.mk (kM (g := gb237) (o := .cells #[.int .i64 t234, .int .i64 t235] 23 (0, 0)) (by (with_reducible repeat (first | refine kE ?_ _ | refine kG ?_ | refine kF ?_ _)); exact BK237.out) hb); have n2_ := Aside0.mk (kK (by repeat (first | (with_reducible first | exact HB.out | apply kC | apply kA | apply kB | refine kD ?_ GE233.out | refine kD ?_ GE237.out) | exact HB.out)) hb); clear BK233; clear BK237; clear HB; have BK233 := n0_; have BK237 := n1_; have HB := n2_; clear n0_ n1_ n2_; (try clear hb); (try clear hb2); (try clear hk); (try clear hi)) | ((with_reducible refine kP (N := 9) rfl ?_); refine kN ?hg (N := 9) ?hd (cs := #[.int .i64 0, .int .i64 0]) (t := 23) ?hr ?_; (case hd => rfl); (case hg => rfl); (case hr => first | (go_simp; done) | (go_simp; rfl)); intro gb246 hg w25 hbox hb; have n0_ := Aside0.mk (kM (g := gb233) (o := .cells #[.int .i64 t230, .int .i64 t231] 23 (0, 0)) (by (with_reducible repeat (first | refine kE ?_ _ | refine kG ?_ | refine kF ?_ _)); exact BK233.out) hb); have n1_ := Aside0.mk (kM (g := gb237) (o := .cells #[.int .i64 t234, .int .i64 t235] 23 (0, 0)) (by (with_reducible repeat (first | refine kE ?_ _ | refine kG ?_ | refine kF ?_ _)); exact BK237.out) hb); have n2_ := Aside0.mk (kK (by repeat (first | (with_reducible first | exact HB.out | apply kC | apply kA | apply kB | refine kD ?_ GE233.out | refine kD ?_ GE237.out) | exact HB.out)) hb); have n3_ := Aside0.mk (hbox); have n4_ := Aside0.mk ((by rw [hg]; exact (kJ (by repeat (first | (with_reducible first | exact HB.out | apply kC | apply kA | apply kB | refine kD ?_ GE233.out | refine kD ?_ GE237.out) | exact HB.out))) : w.heap.size ≤ gb246)); have n5_ := Aside0.mk ((by rw [hg]; exact (kJ (by repeat (first | (with_reducible first | exact HB.out | apply kC | apply kA | apply kB | refine kD ?_ GE233.out | refine kD ?_ GE237.out) | exact HB.out))) : w.heap.size ≤ gb246)); have n6_ := Aside0.mk ((by rw [hg]; exact Nat.ne_of_lt (kQ (g := gb233) (o := .cells #[.int .i64 t230, .int .i64 t231] 23 (0, 0)) (by (with_reducible repeat (first | refine kE ?_ _ | refine kG ?_ | refine kF ?_ _)); exact BK233.out)) : gb233 ≠ gb246)); have n7_ := Aside0.mk ((by rw [hg]; exact Nat.ne_of_gt (kQ (g := gb233) (o := .cells #[.int .i64 t230, .int .i64 t231] 23 (0, 0)) (by (with_reducible repeat (first | refine kE ?_ _ | refine kG ?_ | refine kF ?_ _)); exact BK233.out)) : gb246 ≠ gb233)); have n8_ := Aside0.mk ((by rw [hg]; exact Nat.ne_of_lt (kQ (g := gb237) (o := .cells #[.int .i64 t234, .int .i64 t235] 23 (0, 0)) (by (with_reducible repeat (first | refine kE ?_ _ | refine kG ?_ | refine kF ?_ _)); exact BK237.out)) : gb237 ≠ gb246)); have n9_ := Aside0.mk ((by rw [hg]; exact Nat.ne_of_gt (kQ (g := gb237) (o := .cells #[.int .i64 t234, .int .i64 t235] 23 (0, 0)) (by (with_reducible repeat (first | refine kE ?_ _ | refine kG ?_ | refine kF ?_ _)); exact BK237.out)) : gb246 ≠ gb237)); clear BK233; clear BK237; clear HB; have BK233 := n0_; have BK237 := n1_; have HB := n2_; have BK246 := n3_; have GW246 := n4_; have GE246 := n5_; have NB233_246 := n6_; have NB246_233 := n7_; have NB237_246 := n8_; have NB246_237 := n9_; clear n0_ n1_ n2_ n3_ n4_ n5_ n6_ n7_ n8_ n9_; clear hb hbox hg; have hnb26 := NB246_233.out; have hnc26 := NB233_246.out; have hnb27 := NB246_237.out; have hnc27 := NB237_246.out; have hcz28_0 : w25.cell? ⟨gb246, 0, none⟩ = some (.int .i64 0) := (kI BK246.out 0).trans rfl; have hcz28_1 : w25.cell? ⟨gb246, 1, none⟩ = some (.int .i64 0) := (kI BK246.out 1).trans rfl; have hfz28_0 := kH BK246.out 0; have hfz28_1 := kH BK246.out 1) | ((with_reducible refine kL (f := 9) rfl ?_); refine kO (some 37) rfl rfl Try.func9 (by kernel_rfl) rfl #[.int .i64 (-4713), .int .i64 1, .int .i64 1] rfl (by (try simp only [List.map_toArray, List.map_cons, List.map_nil]); first | done | rfl | (simp only [List.length_drop, List.length_take]; rfl)) ?_; (with_reducible refine (day_Make.calls (-4713) 1 1 t247 t248 t249 _ A5.out).mono ?_); rintro e w29 ⟨rfl, hb⟩; refine ⟨_, rfl, ?_⟩; have n0_ := Aside0.mk (kM (g := gb233) (o := .cells #[.int .i64 t230, .int .i64 t231] 23 (0, 0)) (by (with_reducible repeat (first | refine kE ?_ _ | refine kG ?_ | refine kF ?_ _)); refine blk_far ?_ NB233_246.out _; (with_reducible repeat (first | refine kE ?_ _ | refine kG ?_ | refine kF ?_ _)); refine blk_far ?_ NB233_246.out _; (with_reducible repeat (first | refine kE ?_ _ | refine kG ?_ | refine kF ?_ _)); exact BK233.out) hb); have n1_ := Aside0.mk (kM (g := gb237) (o := .cells #[.int .i64 t234, .int .i64 t235] 23 (0, 0)) (by (with_reducible repeat (first | refine kE ?_ _ | refine kG ?_ | refine kF ?_ _)); refine blk_far ?_ NB237_246.out _; (with_reducible repeat (first | refine kE ?_ _ | refine kG ?_ | refine kF ?_ _)); refine blk_far ?_ NB237_246.out _; (with_reducible repeat (first | refine kE ?_ _ | refine kG ?_ | refine kF ?_ _)); exact BK237.out) hb); have n2_ := Aside0.mk (kM (g := gb246) (o := .cells #[.int .i64 t242, .int .i64 t243] 23 (0, 0)) (by (with_reducible repeat (first | refine kE ?_ _ | refine kG ?_ | refine kF ?_ _)); refine kR (cs := #[.int .i64 t242, .int .i64 0]) ?_ 1 _ rfl; (with_reducible repeat (first | refine kE ?_ _ | refine kG ?_ | refine kF ?_ _)); refine kR (cs := #[.int .i64 0, .int .i64 0]) ?_ 0 _ rfl; (with_reducible repeat (first | refine kE ?_ _ | refine kG ?_ | refine kF ?_ _)); exact BK246.out) hb); have n3_ := Aside0.mk (kK (by repeat (first | (with_reducible first | exact HB.out | apply kC | apply kA | apply kB | refine kD ?_ GE233.out | refine kD ?_ GE237.out | refine kD ?_ GE246.out) | exact HB.out)) hb); clear BK233; clear BK237; clear BK246; clear HB; have BK233 := n0_; have BK237 := n1_; have BK246 := n2_; have HB := n3_; clear n0_ n1_ n2_ n3_; (try clear hb); (try clear hb2); (try clear hk); (try clear hi)) | ((with_reducible refine kP (N := 12) rfl ?_); refine kN ?hg (N := 12) ?hd (cs := #[.int .i64 0, .int .i64 0]) (t := 23) ?hr ?_; (case hd => rfl); (case hg => rfl); (case hr => first | (go_simp; done) | (go_simp; rfl)); intro gb250 hg w30 hbox hb; have n0_ := Aside0.mk (kM (g := gb233) (o := .cells #[.int .i64 t230, .int .i64 t231] 23 (0, 0)) (by (with_reducible repeat (first | refine kE ?_ _ | refine kG ?_ | refine kF ?_ _)); exact BK233.out) hb); have n1_ := Aside0.mk (kM (g := gb237) (o := .cells #[.int .i64 t234, .int .i64 t235] 23 (0, 0)) (by (with_reducible repeat (first | refine kE ?_ _ | refine kG ?_ | refine kF ?_ _)); exact BK237.out) hb); have n2_ := Aside0.mk (kM (g := gb246) (o := .cells #[.int .i64 t242, .int .i64 t243] 23 (0, 0)) (by (with_reducible repeat (first | refine kE ?_ _ | refine kG ?_ | refine kF ?_ _)); exact BK246.out) hb); have n3_ := Aside0.mk (kK (by repeat (first | (with_reducible first | exact HB.out | apply kC | apply kA | apply kB | refine kD ?_ GE233.out | refine kD ?_ GE237.out | refine kD ?_ GE246.out) | exact HB.out)) hb); have n4_ := Aside0.mk (hbox); have n5_ := Aside0.mk ((by rw [hg]; exact (kJ (by repeat (first | (with_reducible first | exact HB.out | apply kC | apply kA | apply kB | refine kD ?_ GE233.out | refine kD ?_ GE237.out | refine kD ?_ GE246.out) | exact HB.out))) : w.heap.size ≤ gb250)); have n6_ := Aside0.mk ((by rw [hg]; exact (kJ (by repeat (first | (with_reducible first | exact HB.out | apply kC | apply kA | apply kB | refine kD ?_ GE233.out | refine kD ?_ GE237.out | refine kD ?_ GE246.out) | exact HB.out))) : w.heap.size ≤ gb250)); have n7_ := Aside0.mk ((by rw [hg]; exact Nat.ne_of_lt (kQ (g := gb233) (o := .cells #[.int .i64 t230, .int .i64 t231] 23 (0, 0)) (by (with_reducible repeat (first | refine kE ?_ _ | refine kG ?_ | refine kF ?_ _)); exact BK233.out)) : gb233 ≠ gb250)); have n8_ := Aside0.mk ((by rw [hg]; exact Nat.ne_of_gt (kQ (g := gb233) (o := .cells #[.int .i64 t230, .int .i64 t231] 23 (0, 0)) (by (with_reducible repeat (first | refine kE ?_ _ | refine kG ?_ | refine kF ?_ _)); exact BK233.out)) : gb250 ≠ gb233)); have n9_ := Aside0.mk ((by rw [hg]; exact Nat.ne_of_lt (kQ (g := gb237) (o := .cells #[.int .i64 t234, .int .i64 t235] 23 (0, 0)) (by (with_reducible repeat (first | refine kE ?_ _ | refine kG ?_ | refine kF ?_ _)); exact BK237.out)) : gb237 ≠ gb250)); have n10_ := Aside0.mk ((by rw [hg]; exact Nat.ne_of_gt (kQ (g := gb237) (o := .cells #[.int .i64 t234, .int .i64 t235] 23 (0, 0)) (by (with_reducible repeat (first | refine kE ?_ _ | refine kG ?_ | refine kF ?_ _)); exact BK237.out)) : gb250 ≠ gb237)); have n11_ := Aside0.mk ((by rw [hg]; exact Nat.ne_of_lt (kQ (g := gb246) (o := .cells #[.int .i64 t242, .int .i64 t243] 23 (0, 0)) (by (with_reducible repeat (first | refine kE ?_ _ | refine kG ?_ | refine kF ?_ _)); exact BK246.out)) : gb246 ≠ gb250)); have n12_ := Aside0.mk ((by rw [hg]; exact Nat.ne_of_gt (kQ (g := gb246) (o := .cells #[.int .i64 t242, .int .i64 t243] 23 (0, 0)) (by (with_reducible repeat (first | refine kE ?_ _ | refine kG ?_ | refine kF ?_ _)); exact BK246.out)) : gb250 ≠ gb246)); clear BK233; clear BK237; clear BK246; clear HB; have BK233 := n0_; have BK237 := n1_; have BK246 := n2_; have HB := n3_; have BK250 := n4_; have GW250 := n5_; have GE250 := n6_; have NB233_250 := n7_; have NB250_233 := n8_; have NB237_250 := n9_; have NB250_237 := n10_; have NB246_250 := n11_; have NB250_246 := n12_; clear n0_ n1_ n2_ n3_ n4_ n5_ n6_ n7_ n8_ n9_ n10_ n11_ n12_; clear hb hbox hg; have hnb31 := NB250_233.out; have hnc31 := NB233_250.out; have hnb32 := NB250_237.out; have hnc32 := NB237_250.out; have hnb33 := NB250_246.out; have hnc33 := NB246_250.out; have hcz34_0 : w30.cell? ⟨gb250, 0, none⟩ = some (.int .i64 0) := (kI BK250.out 0).trans rfl; have hcz34_1 : w30.cell? ⟨gb250, 1, none⟩ = some (.int .i64 0) := (kI BK250.out 1).trans rfl; have hfz34_0 := kH BK250.out 0; have hfz34_1 := kH BK250.out 1; have hcz35_0 : w30.cell? ⟨gb233, 0, none⟩ = some (.int .i64 t230) := (kI BK233.out 0).trans rfl; have hcz35_1 : w30.cell? ⟨gb233, 1, none⟩ = some (.int .i64 t231) := (kI BK233.out 1).trans rfl; have hfz35_0 := kH BK233.out 0; have hfz35_1 := kH BK233.out 1; have hcz36_0 : w30.cell? ⟨gb246, 0, none⟩ = some (.int .i64 t242) := (kI BK246.out 0).trans rfl; have hcz36_1 : w30.cell? ⟨gb246, 1, none⟩ = some (.int .i64 t243) := (kI BK246.out 1).trans rfl; have hfz36_0 := kH BK246.out 0; have hfz36_1 := kH BK246.out 1))
                      go_ret
                      exact ⟨by first | rfl | (simp [errW_none, errW_some] <;> rfl) | (simp [*, errW_none, errW_some] <;> rfl), by repeat (first | (with_reducible first | exact HB.out | apply kC | apply kA | apply kB | refine kD ?_ GE233.out | refine kD ?_ GE237.out | refine kD ?_ GE246.out | refine kD ?_ GE250.out) | exact HB.out)⟩
                    · rw [if_neg c15] at H
                      have c15b0 : (t245 == 0) = false := beq_eq_false_iff_ne.mpr c15
                      have c15b1 : (t245 != 0) = true := bne_iff_ne.mpr c15
                      exact absurd (Option.some.inj H) (by rw [HRT.out]; decide)
                  · rw [if_neg c14] at H
                    have c14b0 : (t244 == 86399999999) = false := beq_eq_false_iff_ne.mpr c14
                    have c14b1 : (t244 != 86399999999) = true := bne_iff_ne.mpr c14
                    exact absurd (Option.some.inj H) (by rw [HRT.out]; decide)
                · rw [if_neg c13] at H
                  have c13b0 : (t243 == (-1)) = false := beq_eq_false_iff_ne.mpr c13
                  have c13b1 : (t243 != (-1)) = true := bne_iff_ne.mpr c13
                  exact absurd (Option.some.inj H) (by rw [HRT.out]; decide)
              · rw [if_neg c12] at H
                have c12b0 : (t241 == 0) = false := beq_eq_false_iff_ne.mpr c12
                have c12b1 : (t241 != 0) = true := bne_iff_ne.mpr c12
                exact absurd (Option.some.inj H) (by rw [HRT.out]; decide)
            · rw [if_neg c11] at H
              have c11b0 : (t240 == 1) = false := beq_eq_false_iff_ne.mpr c11
              have c11b1 : (t240 != 1) = true := bne_iff_ne.mpr c11
              exact absurd (Option.some.inj H) (by rw [HRT.out]; decide)
          · rw [if_neg c10] at H
            have c10b0 : (t239 == 3) = false := beq_eq_false_iff_ne.mpr c10
            have c10b1 : (t239 != 3) = true := bne_iff_ne.mpr c10
            exact absurd (Option.some.inj H) (by rw [HRT.out]; decide)
        · rw [if_neg c9] at H
          have c9b0 : (t238 == 2024) = false := beq_eq_false_iff_ne.mpr c9
          have c9b1 : (t238 != 2024) = true := bne_iff_ne.mpr c9
          exact absurd (Option.some.inj H) (by rw [HRT.out]; decide)
      · rw [if_neg c8] at H
        have c8b0 : (t236 == 0) = false := beq_eq_false_iff_ne.mpr c8
        have c8b1 : (t236 != 0) = true := bne_iff_ne.mpr c8
        exact absurd (Option.some.inj H) (by rw [HRT.out]; decide)
    · rw [if_neg c7] at H
      have c7b0 : (t232 == 0) = false := beq_eq_false_iff_ne.mpr c7
      have c7b1 : (t232 != 0) = true := bne_iff_ne.mpr c7
      exact absurd (Option.some.inj H) (by rw [HRT.out]; decide)
  · rw [if_neg c6] at H
    have c6b0 : (t231 == 8825) = false := beq_eq_false_iff_ne.mpr c6
    have c6b1 : (t231 != 8825) = true := bne_iff_ne.mpr c6
    exact absurd (Option.some.inj H) (by rw [HRT.out]; decide)
end Go.Proofs.Ytgjbdojpncmmlaa.P
