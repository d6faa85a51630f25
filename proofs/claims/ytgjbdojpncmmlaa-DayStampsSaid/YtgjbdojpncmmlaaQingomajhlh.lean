-- Written by a program of the session (a print of the seat's translation, functions given by hand among it). Lean checks it.
import Derived.Test.YtgjbdojpncmmlaaQbjoegdnofm
import Derived.Test.YtgjbdojpncmmlaaQjimpfgihbj
import Derived.Test.YtgjbdojpncmmlaaQnjbjiibdlc
import Derived.Test.YtgjbdojpncmmlaaQdlhliafmpo
namespace Go.Proofs.Ytgjbdojpncmmlaa.P
open Go.RowKit Go.Proofs.YtgjbdojpncmmlaaW.PrintWords Go.Proofs.YtgjbdojpncmmlaaW.PrintLast Go.Proofs.YtgjbdojpncmmlaaW.PrintMore
open Go.Proofs.Ytgjbdojpncmmlaa.A
attribute [local go_sem] max2_int min2_int max_two min_two max_three min_three max_four min_four   -- for this text's walks alone
set_option linter.unusedVariables false
set_option linter.unusedSimpArgs false
attribute [local go_sem high] eqA23 eqA33
def computuslaw15_DayStamps.f (k : Nat) (a0_0 : Int) (a0_1 : Int) (a1 : Int) (a2_0 : Int) (a2_1 : Int) (a3_0 : Int) (a3_1 : Int) : Option (Bool) := (day_Stamp.f k a0_0 a0_1 a1).bind fun bt645 => ((computusref15_Stamp.f k a0_0 a0_1 a1).bind fun bt649 => ((day_Start.f k a0_0 a0_1).bind fun bt653 => ((computusref15_Start.f k a0_0 a0_1).bind fun bt657 => ((day_Of.f k a2_0 a2_1).bind fun bt661 => ((computusref15_Of.f k a2_0 a2_1).bind fun bt666 => (if (bt645.1 == bt649.1 && (bt645.2.1 == bt649.2.1)) = true then (if bt645.2.2 = bt649.2.2 then (if (bt653.1 == bt657.1 && (bt653.2.1 == bt657.2.1)) = true then (if bt653.2.2 = bt657.2.2 then (if (bt661.1 == bt666.1 && (bt661.2.1 == bt666.2.1)) = true then (if bt661.2.2.1 = bt666.2.2.1 then (if bt661.2.2.2 = bt666.2.2.2 then ((day_RightStamp.f k a2_0 a2_1).bind fun t671 => ((computusref15_RightStamp.f k a2_0 a2_1).bind fun t672 => (if (t671 == t672) = true then ((day_CmpStamp.f k a2_0 a2_1 a3_0 a3_1).bind fun t673 => ((computusref15_CmpStamp.f k a2_0 a2_1 a3_0 a3_1).bind fun t674 => (if t673 = t674 then ((computuslaw15_known.f k).bind fun t675 => (some t675)) else (some false)))) else (some false)))) else (some false)) else (some false)) else (some false)) else (some false)) else (some false)) else (some false)) else (some false)))))))
def computuslaw15_DayStamps.T7 : Bool × List (List Nat × List Nat) := (true, [([], []), ([], []), ([0, 1], [0, 1]), ([2], [2]), ([3], [3]), ([3], [3]), ([4, 5, 3], [3, 4, 5]), ([3, 6], [3, 6]), ([7, 3], [7]), ([8], [8]), ([8], [8]), ([9, 10, 8], [8, 9, 10]), ([8, 11], [8, 11]), ([12, 8], [12]), ([13], [13]), ([13], [13]), ([14, 15, 13], [13, 14, 15]), ([13, 16], [13, 16]), ([17, 13], [17]), ([18], [18]), ([18], [18]), ([19, 20, 18], [18, 19, 20]), ([18, 21], [18, 21]), ([22, 18], [22]), ([23], [23]), ([23], [23]), ([24, 25, 23], [23, 24, 25]), ([23, 26], [23, 26]), ([27, 23], [27]), ([28], [28]), ([28], [28]), ([29, 30, 28], [28, 29, 30]), ([28, 31], [28, 31]), ([32, 28], [32]), ([33], [33]), ([34, 33, 33], [33, 34]), ([33], [33]), ([36, 35, 33], [33, 36]), ([35, 37, 33], [33, 35, 37]), ([33, 38], [33, 38]), ([39, 37], [39]), ([40], [40]), ([40], [40]), ([41, 42, 40, 40], [40, 41, 42]), ([40], [40]), ([40], [40]), ([44, 45, 43, 40], [40, 44, 45]), ([43, 46, 40], [40, 43, 46]), ([40, 47], [40, 47]), ([48, 46], [48]), ([49, 49], [49]), ([49, 50], [49, 50]), ([51, 50, 0, 1, 2, 3, 4, 5, 6, 7, 8, 9, 10, 11, 12, 13, 14, 15, 16, 17, 18, 19, 20, 21, 22, 23, 24, 25, 26, 27, 28, 29, 30, 31, 32, 33, 34, 35, 36, 37, 38, 39, 40, 41, 42, 43, 44, 45, 46, 47, 48, 49, 50, 51], [51])])
def computuslaw15_DayStamps.B7 : List Nat := [0, 0, 3, 7, 15, 15, 63, 127, 255, 511, 511, 2047, 4095, 8191, 16383, 16383, 65535, 131071, 262143, 524287, 524287, 2097151, 4194303, 8388607, 16777215, 16777215, 67108863, 134217727, 268435455, 536870911, 536870911, 2147483647, 4294967295, 8589934591, 17179869183, 34359738367, 17179869183, 137438953471, 274877906943, 549755813887, 1099511627775, 2199023255551, 2199023255551, 8796093022207, 2199023255551, 2199023255551, 70368744177663, 140737488355327, 281474976710655, 562949953421311, 1125899906842623, 2251799813685247, 4503599627370495]
theorem computuslaw15_DayStamps.tab7 : rtab .any (opsOf Try.f7 7) = computuslaw15_DayStamps.T7 := by kernel_rfl
theorem computuslaw15_DayStamps.bits7 : waitsOk computuslaw15_DayStamps.T7.2 computuslaw15_DayStamps.B7 = true := by kernel_rfl
set_option maxHeartbeats 8000000 in
set_option maxRecDepth 100000 in
theorem computuslaw15_DayStamps.calls (k : Nat) (a0_0 : Int) (a0_1 : Int) (a1 : Int) (a2_0 : Int) (a2_1 : Int) (a3_0 : Int) (a3_1 : Int) (r : Bool) (w : World) (h : computuslaw15_DayStamps.f k a0_0 a0_1 a1 a2_0 a2_1 a3_0 a3_1 = some r) (hR : r = true) :
    Calls Try.prog 7 #[.agg #[.int .i64 a0_0, .int .i64 a0_1], .int .i64 a1, .agg #[.int .i64 a2_0, .int .i64 a2_1], .agg #[.int .i64 a3_0, .int .i64 a3_1]] w fun e w' => e = .returned (.bool r) ∧ Below w.heap.size w w' := by
  have HRT := Aside0.mk hR
  clear hR
  have hu23 := Try.underlying23
  have hu33 := Try.underlying33
  have HB := Aside0.mk (Below.refl w.heap.size w)
  have H : ((day_Stamp.f k a0_0 a0_1 a1).bind fun bt645 => ((computusref15_Stamp.f k a0_0 a0_1 a1).bind fun bt649 => ((day_Start.f k a0_0 a0_1).bind fun bt653 => ((computusref15_Start.f k a0_0 a0_1).bind fun bt657 => ((day_Of.f k a2_0 a2_1).bind fun bt661 => ((computusref15_Of.f k a2_0 a2_1).bind fun bt666 => (if (bt645.1 == bt649.1 && (bt645.2.1 == bt649.2.1)) = true then (if bt645.2.2 = bt649.2.2 then (if (bt653.1 == bt657.1 && (bt653.2.1 == bt657.2.1)) = true then (if bt653.2.2 = bt657.2.2 then (if (bt661.1 == bt666.1 && (bt661.2.1 == bt666.2.1)) = true then (if bt661.2.2.1 = bt666.2.2.1 then (if bt661.2.2.2 = bt666.2.2.2 then ((day_RightStamp.f k a2_0 a2_1).bind fun t671 => ((computusref15_RightStamp.f k a2_0 a2_1).bind fun t672 => (if (t671 == t672) = true then ((day_CmpStamp.f k a2_0 a2_1 a3_0 a3_1).bind fun t673 => ((computusref15_CmpStamp.f k a2_0 a2_1 a3_0 a3_1).bind fun t674 => (if t673 = t674 then ((computuslaw15_known.f k).bind fun t675 => (some t675)) else (some false)))) else (some false)))) else (some false)) else (some false)) else (some false)) else (some false)) else (some false)) else (some false)) else (some false)))))))) = some r := h
  clear h
  replace H := Option.bind_eq_some_iff.mp H
  obtain ⟨⟨t645, t646, t647⟩, A50, H⟩ := H
  replace H : ((computusref15_Stamp.f k a0_0 a0_1 a1).bind fun bt649 => ((day_Start.f k a0_0 a0_1).bind fun bt653 => ((computusref15_Start.f k a0_0 a0_1).bind fun bt657 => ((day_Of.f k a2_0 a2_1).bind fun bt661 => ((computusref15_Of.f k a2_0 a2_1).bind fun bt666 => (if (t645 == bt649.1 && (t646 == bt649.2.1)) = true then (if t647 = bt649.2.2 then (if (bt653.1 == bt657.1 && (bt653.2.1 == bt657.2.1)) = true then (if bt653.2.2 = bt657.2.2 then (if (bt661.1 == bt666.1 && (bt661.2.1 == bt666.2.1)) = true then (if bt661.2.2.1 = bt666.2.2.1 then (if bt661.2.2.2 = bt666.2.2.2 then ((day_RightStamp.f k a2_0 a2_1).bind fun t671 => ((computusref15_RightStamp.f k a2_0 a2_1).bind fun t672 => (if (t671 == t672) = true then ((day_CmpStamp.f k a2_0 a2_1 a3_0 a3_1).bind fun t673 => ((computusref15_CmpStamp.f k a2_0 a2_1 a3_0 a3_1).bind fun t674 => (if t673 = t674 then ((computuslaw15_known.f k).bind fun t675 => (some t675)) else (some false)))) else (some false)))) else (some false)) else (some false)) else (some false)) else (some false)) else (some false)) else (some false)) else (some false))))))) = some r := H
  have A5 := Aside0.mk A50
  clear A50
  replace H := Option.bind_eq_some_iff.mp H
  obtain ⟨⟨t649, t650, t651⟩, A60, H⟩ := H
  replace H : ((day_Start.f k a0_0 a0_1).bind fun bt653 => ((computusref15_Start.f k a0_0 a0_1).bind fun bt657 => ((day_Of.f k a2_0 a2_1).bind fun bt661 => ((computusref15_Of.f k a2_0 a2_1).bind fun bt666 => (if (t645 == t649 && (t646 == t650)) = true then (if t647 = t651 then (if (bt653.1 == bt657.1 && (bt653.2.1 == bt657.2.1)) = true then (if bt653.2.2 = bt657.2.2 then (if (bt661.1 == bt666.1 && (bt661.2.1 == bt666.2.1)) = true then (if bt661.2.2.1 = bt666.2.2.1 then (if bt661.2.2.2 = bt666.2.2.2 then ((day_RightStamp.f k a2_0 a2_1).bind fun t671 => ((computusref15_RightStamp.f k a2_0 a2_1).bind fun t672 => (if (t671 == t672) = true then ((day_CmpStamp.f k a2_0 a2_1 a3_0 a3_1).bind fun t673 => ((computusref15_CmpStamp.f k a2_0 a2_1 a3_0 a3_1).bind fun t674 => (if t673 = t674 then ((computuslaw15_known.f k).bind fun t675 => (some t675)) else (some false)))) else (some false)))) else (some false)) else (some false)) else (some false)) else (some false)) else (some false)) else (some false)) else (some false)))))) = some r := H
  have A6 := Aside0.mk A60
  clear A60
  replace H := Option.bind_eq_some_iff.mp H
  obtain ⟨⟨t653, t654, t655⟩, A70, H⟩ := H
  replace H : ((computusref15_Start.f k a0_0 a0_1).bind fun bt657 => ((day_Of.f k a2_0 a2_1).bind fun bt661 => ((computusref15_Of.f k a2_0 a2_1).bind fun bt666 => (if (t645 == t649 && (t646 == t650)) = true then (if t647 = t651 then (if (t653 == bt657.1 && (t654 == bt657.2.1)) = true then (if t655 = bt657.2.2 then (if (bt661.1 == bt666.1 && (bt661.2.1 == bt666.2.1)) = true then (if bt661.2.2.1 = bt666.2.2.1 then (if bt661.2.2.2 = bt666.2.2.2 then ((day_RightStamp.f k a2_0 a2_1).bind fun t671 => ((computusref15_RightStamp.f k a2_0 a2_1).bind fun t672 => (if (t671 == t672) = true then ((day_CmpStamp.f k a2_0 a2_1 a3_0 a3_1).bind fun t673 => ((computusref15_CmpStamp.f k a2_0 a2_1 a3_0 a3_1).bind fun t674 => (if t673 = t674 then ((computuslaw15_known.f k).bind fun t675 => (some t675)) else (some false)))) else (some false)))) else (some false)) else (some false)) else (some false)) else (some false)) else (some false)) else (some false)) else (some false))))) = some r := H
  have A7 := Aside0.mk A70
  clear A70
  replace H := Option.bind_eq_some_iff.mp H
  obtain ⟨⟨t657, t658, t659⟩, A80, H⟩ := H
  replace H : ((day_Of.f k a2_0 a2_1).bind fun bt661 => ((computusref15_Of.f k a2_0 a2_1).bind fun bt666 => (if (t645 == t649 && (t646 == t650)) = true then (if t647 = t651 then (if (t653 == t657 && (t654 == t658)) = true then (if t655 = t659 then (if (bt661.1 == bt666.1 && (bt661.2.1 == bt666.2.1)) = true then (if bt661.2.2.1 = bt666.2.2.1 then (if bt661.2.2.2 = bt666.2.2.2 then ((day_RightStamp.f k a2_0 a2_1).bind fun t671 => ((computusref15_RightStamp.f k a2_0 a2_1).bind fun t672 => (if (t671 == t672) = true then ((day_CmpStamp.f k a2_0 a2_1 a3_0 a3_1).bind fun t673 => ((computusref15_CmpStamp.f k a2_0 a2_1 a3_0 a3_1).bind fun t674 => (if t673 = t674 then ((computuslaw15_known.f k).bind fun t675 => (some t675)) else (some false)))) else (some false)))) else (some false)) else (some false)) else (some false)) else (some false)) else (some false)) else (some false)) else (some false)))) = some r := H
  have A8 := Aside0.mk A80
  clear A80
  replace H := Option.bind_eq_some_iff.mp H
  obtain ⟨⟨t661, t662, t663, t664⟩, A90, H⟩ := H
  replace H : ((computusref15_Of.f k a2_0 a2_1).bind fun bt666 => (if (t645 == t649 && (t646 == t650)) = true then (if t647 = t651 then (if (t653 == t657 && (t654 == t658)) = true then (if t655 = t659 then (if (t661 == bt666.1 && (t662 == bt666.2.1)) = true then (if t663 = bt666.2.2.1 then (if t664 = bt666.2.2.2 then ((day_RightStamp.f k a2_0 a2_1).bind fun t671 => ((computusref15_RightStamp.f k a2_0 a2_1).bind fun t672 => (if (t671 == t672) = true then ((day_CmpStamp.f k a2_0 a2_1 a3_0 a3_1).bind fun t673 => ((computusref15_CmpStamp.f k a2_0 a2_1 a3_0 a3_1).bind fun t674 => (if t673 = t674 then ((computuslaw15_known.f k).bind fun t675 => (some t675)) else (some false)))) else (some false)))) else (some false)) else (some false)) else (some false)) else (some false)) else (some false)) else (some false)) else (some false))) = some r := H
  have A9 := Aside0.mk A90
  clear A90
  replace H := Option.bind_eq_some_iff.mp H
  obtain ⟨⟨t666, t667, t668, t669⟩, A100, H⟩ := H
  replace H : (if (t645 == t649 && (t646 == t650)) = true then (if t647 = t651 then (if (t653 == t657 && (t654 == t658)) = true then (if t655 = t659 then (if (t661 == t666 && (t662 == t667)) = true then (if t663 = t668 then (if t664 = t669 then ((day_RightStamp.f k a2_0 a2_1).bind fun t671 => ((computusref15_RightStamp.f k a2_0 a2_1).bind fun t672 => (if (t671 == t672) = true then ((day_CmpStamp.f k a2_0 a2_1 a3_0 a3_1).bind fun t673 => ((computusref15_CmpStamp.f k a2_0 a2_1 a3_0 a3_1).bind fun t674 => (if t673 = t674 then ((computuslaw15_known.f k).bind fun t675 => (some t675)) else (some false)))) else (some false)))) else (some false)) else (some false)) else (some false)) else (some false)) else (some false)) else (some false)) else (some false)) = some r := H
  have A10 := Aside0.mk A100
  clear A100
  by_cases c11 : (t645 == t649 && (t646 == t650)) = true
  · rw [if_pos c11] at H
    have c11b0 : (t645 == t649 && (t646 == t650)) = true := c11
    (try (have c11b1 : decide (t645 = t649 && (t646 == t650)) = true := by simpa using c11))
    (try (have c11b2 : (t645 == t649 && (t646 == t650)) = true := by simpa using c11))
    clear c11
    by_cases c12 : t647 = t651
    · rw [if_pos c12] at H
      have c12b0 : (t647 == t651) = true := beq_iff_eq.mpr c12
      have c12b1 : (t647 != t651) = false := bne_eq_false_iff_eq.mpr c12
      clear c12
      by_cases c13 : (t653 == t657 && (t654 == t658)) = true
      · rw [if_pos c13] at H
        have c13b0 : (t653 == t657 && (t654 == t658)) = true := c13
        (try (have c13b1 : decide (t653 = t657 && (t654 == t658)) = true := by simpa using c13))
        (try (have c13b2 : (t653 == t657 && (t654 == t658)) = true := by simpa using c13))
        clear c13
        by_cases c14 : t655 = t659
        · rw [if_pos c14] at H
          have c14b0 : (t655 == t659) = true := beq_iff_eq.mpr c14
          have c14b1 : (t655 != t659) = false := bne_eq_false_iff_eq.mpr c14
          clear c14
          by_cases c15 : (t661 == t666 && (t662 == t667)) = true
          · rw [if_pos c15] at H
            have c15b0 : (t661 == t666 && (t662 == t667)) = true := c15
            (try (have c15b1 : decide (t661 = t666 && (t662 == t667)) = true := by simpa using c15))
            (try (have c15b2 : (t661 == t666 && (t662 == t667)) = true := by simpa using c15))
            clear c15
            by_cases c16 : t663 = t668
            · rw [if_pos c16] at H
              have c16b0 : (t663 == t668) = true := beq_iff_eq.mpr c16
              have c16b1 : (t663 != t668) = false := bne_eq_false_iff_eq.mpr c16
              clear c16
              by_cases c17 : t664 = t669
              · rw [if_pos c17] at H
                have c17b0 : (t664 == t669) = true := beq_iff_eq.mpr c17
                have c17b1 : (t664 != t669) = false := bne_eq_false_iff_eq.mpr c17
                clear c17
                replace H := Option.bind_eq_some_iff.mp H
                obtain ⟨t671, A180, H⟩ := H
                replace H : ((computusref15_RightStamp.f k a2_0 a2_1).bind fun t672 => (if (t671 == t672) = true then ((day_CmpStamp.f k a2_0 a2_1 a3_0 a3_1).bind fun t673 => ((computusref15_CmpStamp.f k a2_0 a2_1 a3_0 a3_1).bind fun t674 => (if t673 = t674 then ((computuslaw15_known.f k).bind fun t675 => (some t675)) else (some false)))) else (some false))) = some r := H
                have A18 := Aside0.mk A180
                clear A180
                replace H := Option.bind_eq_some_iff.mp H
                obtain ⟨t672, A190, H⟩ := H
                replace H : (if (t671 == t672) = true then ((day_CmpStamp.f k a2_0 a2_1 a3_0 a3_1).bind fun t673 => ((computusref15_CmpStamp.f k a2_0 a2_1 a3_0 a3_1).bind fun t674 => (if t673 = t674 then ((computuslaw15_known.f k).bind fun t675 => (some t675)) else (some false)))) else (some false)) = some r := H
                have A19 := Aside0.mk A190
                clear A190
                by_cases c20 : (t671 == t672) = true
                · rw [if_pos c20] at H
                  have c20b0 : (t671 == t672) = true := c20
                  (try (have c20b1 : decide (t671 = t672) = true := by simpa using c20))
                  (try (have c20b2 : (t671 == t672) = true := by simpa using c20))
                  clear c20
                  replace H := Option.bind_eq_some_iff.mp H
                  obtain ⟨t673, A210, H⟩ := H
                  replace H : ((computusref15_CmpStamp.f k a2_0 a2_1 a3_0 a3_1).bind fun t674 => (if t673 = t674 then ((computuslaw15_known.f k).bind fun t675 => (some t675)) else (some false))) = some r := H
                  have A21 := Aside0.mk A210
                  clear A210
                  replace H := Option.bind_eq_some_iff.mp H
                  obtain ⟨t674, A220, H⟩ := H
                  replace H : (if t673 = t674 then ((computuslaw15_known.f k).bind fun t675 => (some t675)) else (some false)) = some r := H
                  have A22 := Aside0.mk A220
                  clear A220
                  by_cases c23 : t673 = t674
                  · rw [if_pos c23] at H
                    have c23b0 : (t673 == t674) = true := beq_iff_eq.mpr c23
                    have c23b1 : (t673 != t674) = false := bne_eq_false_iff_eq.mpr c23
                    clear c23
                    replace H := Option.bind_eq_some_iff.mp H
                    obtain ⟨t675, A240, H⟩ := H
                    replace H : (some t675) = some r := H
                    have A24 := Aside0.mk A240
                    clear A240
                    obtain rfl := Option.some.inj H
                    go_enter Try.func7, Try.ntmps7
                    try go_wp2_with (first | ((with_reducible refine gate_dst (N := 4) rfl ?_); refine box_event ?hg (N := 4) ?hd (cs := #[.int .i64 a0_0, .int .i64 a0_1]) (t := 23) ?hr ?_; (case hd => rfl); (case hg => rfl); (case hr => first | (go_simp; done) | (go_simp; rfl)); intro gb642 hg w25 hbox hb; have n0_ := Aside0.mk (kM (by repeat (first | (with_reducible first | exact HB.out | apply kG | apply kD | apply kF) | exact HB.out)) hb); have n1_ := Aside0.mk (hbox); have n2_ := Aside0.mk ((by rw [hg]; exact (kK (by repeat (first | (with_reducible first | exact HB.out | apply kG | apply kD | apply kF) | exact HB.out))) : w.heap.size ≤ gb642)); have n3_ := Aside0.mk ((by rw [hg]; exact (kK (by repeat (first | (with_reducible first | exact HB.out | apply kG | apply kD | apply kF) | exact HB.out))) : w.heap.size ≤ gb642)); clear HB; have HB := n0_; have BK642 := n1_; have GW642 := n2_; have GE642 := n3_; clear n0_ n1_ n2_ n3_; clear hb hbox hg) | ((with_reducible refine gate_dst (N := 6) rfl ?_); refine box_event ?hg (N := 6) ?hd (cs := #[.int .i64 a2_0, .int .i64 a2_1]) (t := 33) ?hr ?_; (case hd => rfl); (case hg => rfl); (case hr => first | (go_simp; done) | (go_simp; rfl)); intro gb643 hg w26 hbox hb; have n0_ := Aside0.mk (kI (g := gb642) (o := .cells #[.int .i64 a0_0, .int .i64 a0_1] 23 (0, 0)) (by (with_reducible repeat (first | refine kB ?_ _ | refine kE ?_ | refine kC ?_ _)); exact BK642.out) hb); have n1_ := Aside0.mk (kM (by repeat (first | (with_reducible first | exact HB.out | apply kG | apply kD | apply kF | refine kA ?_ GE642.out) | exact HB.out)) hb); have n2_ := Aside0.mk (hbox); have n3_ := Aside0.mk ((by rw [hg]; exact (kK (by repeat (first | (with_reducible first | exact HB.out | apply kG | apply kD | apply kF | refine kA ?_ GE642.out) | exact HB.out))) : w.heap.size ≤ gb643)); have n4_ := Aside0.mk ((by rw [hg]; exact (kK (by repeat (first | (with_reducible first | exact HB.out | apply kG | apply kD | apply kF | refine kA ?_ GE642.out) | exact HB.out))) : w.heap.size ≤ gb643)); have n5_ := Aside0.mk ((by rw [hg]; exact Nat.ne_of_lt (kP (g := gb642) (o := .cells #[.int .i64 a0_0, .int .i64 a0_1] 23 (0, 0)) (by (with_reducible repeat (first | refine kB ?_ _ | refine kE ?_ | refine kC ?_ _)); exact BK642.out)) : gb642 ≠ gb643)); have n6_ := Aside0.mk ((by rw [hg]; exact Nat.ne_of_gt (kP (g := gb642) (o := .cells #[.int .i64 a0_0, .int .i64 a0_1] 23 (0, 0)) (by (with_reducible repeat (first | refine kB ?_ _ | refine kE ?_ | refine kC ?_ _)); exact BK642.out)) : gb643 ≠ gb642)); clear BK642; clear HB; have BK642 := n0_; have HB := n1_; have BK643 := n2_; have GW643 := n3_; have GE643 := n4_; have NB642_643 := n5_; have NB643_642 := n6_; clear n0_ n1_ n2_ n3_ n4_ n5_ n6_; clear hb hbox hg) | ((with_reducible refine gate_dst (N := 7) rfl ?_); refine box_event ?hg (N := 7) ?hd (cs := #[.int .i64 a3_0, .int .i64 a3_1]) (t := 33) ?hr ?_; (case hd => rfl); (case hg => rfl); (case hr => first | (go_simp; done) | (go_simp; rfl)); intro gb644 hg w27 hbox hb; have n0_ := Aside0.mk (kI (g := gb642) (o := .cells #[.int .i64 a0_0, .int .i64 a0_1] 23 (0, 0)) (by (with_reducible repeat (first | refine kB ?_ _ | refine kE ?_ | refine kC ?_ _)); exact BK642.out) hb); have n1_ := Aside0.mk (kI (g := gb643) (o := .cells #[.int .i64 a2_0, .int .i64 a2_1] 33 (0, 0)) (by (with_reducible repeat (first | refine kB ?_ _ | refine kE ?_ | refine kC ?_ _)); exact BK643.out) hb); have n2_ := Aside0.mk (kM (by repeat (first | (with_reducible first | exact HB.out | apply kG | apply kD | apply kF | refine kA ?_ GE642.out | refine kA ?_ GE643.out) | exact HB.out)) hb); have n3_ := Aside0.mk (hbox); have n4_ := Aside0.mk ((by rw [hg]; exact (kK (by repeat (first | (with_reducible first | exact HB.out | apply kG | apply kD | apply kF | refine kA ?_ GE642.out | refine kA ?_ GE643.out) | exact HB.out))) : w.heap.size ≤ gb644)); have n5_ := Aside0.mk ((by rw [hg]; exact (kK (by repeat (first | (with_reducible first | exact HB.out | apply kG | apply kD | apply kF | refine kA ?_ GE642.out | refine kA ?_ GE643.out) | exact HB.out))) : w.heap.size ≤ gb644)); have n6_ := Aside0.mk ((by rw [hg]; exact Nat.ne_of_lt (kP (g := gb642) (o := .cells #[.int .i64 a0_0, .int .i64 a0_1] 23 (0, 0)) (by (with_reducible repeat (first | refine kB ?_ _ | refine kE ?_ | refine kC ?_ _)); exact BK642.out)) : gb642 ≠ gb644)); have n7_ := Aside0.mk ((by rw [hg]; exact Nat.ne_of_gt (kP (g := gb642) (o := .cells #[.int .i64 a0_0, .int .i64 a0_1] 23 (0, 0)) (by (with_reducible repeat (first | refine kB ?_ _ | refine kE ?_ | refine kC ?_ _)); exact BK642.out)) : gb644 ≠ gb642)); have n8_ := Aside0.mk ((by rw [hg]; exact Nat.ne_of_lt (kP (g := gb643) (o := .cells #[.int .i64 a2_0, .int .i64 a2_1] 33 (0, 0)) (by (with_reducible repeat (first | refine kB ?_ _ | refine kE ?_ | refine kC ?_ _)); exact BK643.out)) : gb643 ≠ gb644)); have n9_ := Aside0.mk ((by rw [hg]; exact Nat.ne_of_gt (kP (g := gb643) (o := .cells #[.int .i64 a2_0, .int .i64 a2_1] 33 (0, 0)) (by (with_reducible repeat (first | refine kB ?_ _ | refine kE ?_ | refine kC ?_ _)); exact BK643.out)) : gb644 ≠ gb643)); clear BK642; clear BK643; clear HB; have BK642 := n0_; have BK643 := n1_; have HB := n2_; have BK644 := n3_; have GW644 := n4_; have GE644 := n5_; have NB642_644 := n6_; have NB644_642 := n7_; have NB643_644 := n8_; have NB644_643 := n9_; clear n0_ n1_ n2_ n3_ n4_ n5_ n6_ n7_ n8_ n9_; clear hb hbox hg; have hnb28 := NB642_643.out; have hnc28 := NB643_642.out; have hnb29 := NB642_644.out; have hnc29 := NB644_642.out; have hcz30_0 : w27.cell? ⟨gb642, 0, none⟩ = some (.int .i64 a0_0) := (kH BK642.out 0).trans rfl; have hcz30_1 : w27.cell? ⟨gb642, 1, none⟩ = some (.int .i64 a0_1) := (kH BK642.out 1).trans rfl; have hfz30_0 := kJ BK642.out 0; have hfz30_1 := kJ BK642.out 1) | ((with_reducible refine kL (f := 26) rfl ?_); refine goesL_ (some 26) rfl rfl Try.func26 (by kernel_rfl) rfl #[.agg #[.int .i64 a0_0, .int .i64 a0_1], .int .i64 a1] rfl (by (try simp only [List.map_toArray, List.map_cons, List.map_nil]); first | done | rfl | (simp only [List.length_drop, List.length_take]; rfl)) ?_; (with_reducible refine (day_Stamp.calls k a0_0 a0_1 a1 t645 t646 t647 _ A5.out).mono ?_); rintro e w31 ⟨rfl, hb⟩; refine ⟨_, rfl, ?_⟩; have n0_ := Aside0.mk (kI (g := gb642) (o := .cells #[.int .i64 a0_0, .int .i64 a0_1] 23 (0, 0)) (by (with_reducible repeat (first | refine kB ?_ _ | refine kE ?_ | refine kC ?_ _)); exact BK642.out) hb); have n1_ := Aside0.mk (kI (g := gb643) (o := .cells #[.int .i64 a2_0, .int .i64 a2_1] 33 (0, 0)) (by (with_reducible repeat (first | refine kB ?_ _ | refine kE ?_ | refine kC ?_ _)); exact BK643.out) hb); have n2_ := Aside0.mk (kI (g := gb644) (o := .cells #[.int .i64 a3_0, .int .i64 a3_1] 33 (0, 0)) (by (with_reducible repeat (first | refine kB ?_ _ | refine kE ?_ | refine kC ?_ _)); exact BK644.out) hb); have n3_ := Aside0.mk (kM (by repeat (first | (with_reducible first | exact HB.out | apply kG | apply kD | apply kF | refine kA ?_ GE642.out | refine kA ?_ GE643.out | refine kA ?_ GE644.out) | exact HB.out)) hb); clear BK642; clear BK643; clear BK644; clear HB; have BK642 := n0_; have BK643 := n1_; have BK644 := n2_; have HB := n3_; clear n0_ n1_ n2_ n3_; (try clear hb); (try clear hb2); (try clear hk); (try clear hi)) | ((with_reducible refine gate_dst (N := 9) rfl ?_); refine box_event ?hg (N := 9) ?hd (cs := #[.int .i64 0, .int .i64 0]) (t := 33) ?hr ?_; (case hd => rfl); (case hg => rfl); (case hr => first | (go_simp; done) | (go_simp; rfl)); intro gb648 hg w32 hbox hb; have n0_ := Aside0.mk (kI (g := gb642) (o := .cells #[.int .i64 a0_0, .int .i64 a0_1] 23 (0, 0)) (by (with_reducible repeat (first | refine kB ?_ _ | refine kE ?_ | refine kC ?_ _)); exact BK642.out) hb); have n1_ := Aside0.mk (kI (g := gb643) (o := .cells #[.int .i64 a2_0, .int .i64 a2_1] 33 (0, 0)) (by (with_reducible repeat (first | refine kB ?_ _ | refine kE ?_ | refine kC ?_ _)); exact BK643.out) hb); have n2_ := Aside0.mk (kI (g := gb644) (o := .cells #[.int .i64 a3_0, .int .i64 a3_1] 33 (0, 0)) (by (with_reducible repeat (first | refine kB ?_ _ | refine kE ?_ | refine kC ?_ _)); exact BK644.out) hb); have n3_ := Aside0.mk (kM (by repeat (first | (with_reducible first | exact HB.out | apply kG | apply kD | apply kF | refine kA ?_ GE642.out | refine kA ?_ GE643.out | refine kA ?_ GE644.out) | exact HB.out)) hb); have n4_ := Aside0.mk (hbox); have n5_ := Aside0.mk ((by rw [hg]; exact (kK (by repeat (first | (with_reducible first | exact HB.out | apply kG | apply kD | apply kF | refine kA ?_ GE642.out | refine kA ?_ GE643.out | refine kA ?_ GE644.out) | exact HB.out))) : w.heap.size ≤ gb648)); have n6_ := Aside0.mk ((by rw [hg]; exact (kK (by repeat (first | (with_reducible first | exact HB.out | apply kG | apply kD | apply kF | refine kA ?_ GE642.out | refine kA ?_ GE643.out | refine kA ?_ GE644.out) | exact HB.out))) : w.heap.size ≤ gb648)); have n7_ := Aside0.mk ((by rw [hg]; exact Nat.ne_of_lt (kP (g := gb642) (o := .cells #[.int .i64 a0_0, .int .i64 a0_1] 23 (0, 0)) (by (with_reducible repeat (first | refine kB ?_ _ | refine kE ?_ | refine kC ?_ _)); exact BK642.out)) : gb642 ≠ gb648)); have n8_ := Aside0.mk ((by rw [hg]; exact Nat.ne_of_gt (kP (g := gb642) (o := .cells #[.int .i64 a0_0, .int .i64 a0_1] 23 (0, 0)) (by (with_reducible repeat (first | refine kB ?_ _ | refine kE ?_ | refine kC ?_ _)); exact BK642.out)) : gb648 ≠ gb642)); have n9_ := Aside0.mk ((by rw [hg]; exact Nat.ne_of_lt (kP (g := gb643) (o := .cells #[.int .i64 a2_0, .int .i64 a2_1] 33 (0, 0)) (by (with_reducible repeat (first | refine kB ?_ _ | refine kE ?_ | refine kC ?_ _)); exact BK643.out)) : gb643 ≠ gb648)); have n10_ := Aside0.mk ((by rw [hg]; exact Nat.ne_of_gt (kP (g := gb643) (o := .cells #[.int .i64 a2_0, .int .i64 a2_1] 33 (0, 0)) (by (with_reducible repeat (first | refine kB ?_ _ | refine kE ?_ | refine kC ?_ _)); exact BK643.out)) : gb648 ≠ gb643)); have n11_ := Aside0.mk ((by rw [hg]; exact Nat.ne_of_lt (kP (g := gb644) (o := .cells #[.int .i64 a3_0, .int .i64 a3_1] 33 (0, 0)) (by (with_reducible repeat (first | refine kB ?_ _ | refine kE ?_ | refine kC ?_ _)); exact BK644.out)) : gb644 ≠ gb648)); have n12_ := Aside0.mk ((by rw [hg]; exact Nat.ne_of_gt (kP (g := gb644) (o := .cells #[.int .i64 a3_0, .int .i64 a3_1] 33 (0, 0)) (by (with_reducible repeat (first | refine kB ?_ _ | refine kE ?_ | refine kC ?_ _)); exact BK644.out)) : gb648 ≠ gb644)); clear BK642; clear BK643; clear BK644; clear HB; have BK642 := n0_; have BK643 := n1_; have BK644 := n2_; have HB := n3_; have BK648 := n4_; have GW648 := n5_; have GE648 := n6_; have NB642_648 := n7_; have NB648_642 := n8_; have NB643_648 := n9_; have NB648_643 := n10_; have NB644_648 := n11_; have NB648_644 := n12_; clear n0_ n1_ n2_ n3_ n4_ n5_ n6_ n7_ n8_ n9_ n10_ n11_ n12_; clear hb hbox hg; have hnb33 := NB648_642.out; have hnc33 := NB642_648.out; have hnb34 := NB648_643.out; have hnc34 := NB643_648.out; have hnb35 := NB648_644.out; have hnc35 := NB644_648.out; have hcz36_0 : w32.cell? ⟨gb648, 0, none⟩ = some (.int .i64 0) := (kH BK648.out 0).trans rfl; have hcz36_1 : w32.cell? ⟨gb648, 1, none⟩ = some (.int .i64 0) := (kH BK648.out 1).trans rfl; have hfz36_0 := kJ BK648.out 0; have hfz36_1 := kJ BK648.out 1; have hcz37_0 : w32.cell? ⟨gb642, 0, none⟩ = some (.int .i64 a0_0) := (kH BK642.out 0).trans rfl; have hcz37_1 : w32.cell? ⟨gb642, 1, none⟩ = some (.int .i64 a0_1) := (kH BK642.out 1).trans rfl; have hfz37_0 := kJ BK642.out 0; have hfz37_1 := kJ BK642.out 1) | ((with_reducible refine kL (f := 27) rfl ?_); refine goesL_ (some 32) rfl rfl Try.func27 (by kernel_rfl) rfl #[.agg #[.int .i64 a0_0, .int .i64 a0_1], .int .i64 a1] rfl (by (try simp only [List.map_toArray, List.map_cons, List.map_nil]); first | done | rfl | (simp only [List.length_drop, List.length_take]; rfl)) ?_; (with_reducible refine (computusref15_Stamp.calls k a0_0 a0_1 a1 t649 t650 t651 _ A6.out).mono ?_); rintro e w38 ⟨rfl, hb⟩; refine ⟨_, rfl, ?_⟩; have n0_ := Aside0.mk (kI (g := gb642) (o := .cells #[.int .i64 a0_0, .int .i64 a0_1] 23 (0, 0)) (by (with_reducible repeat (first | refine kB ?_ _ | refine kE ?_ | refine kC ?_ _)); refine blk_far ?_ NB642_648.out _; (with_reducible repeat (first | refine kB ?_ _ | refine kE ?_ | refine kC ?_ _)); refine blk_far ?_ NB642_648.out _; (with_reducible repeat (first | refine kB ?_ _ | refine kE ?_ | refine kC ?_ _)); exact BK642.out) hb); have n1_ := Aside0.mk (kI (g := gb643) (o := .cells #[.int .i64 a2_0, .int .i64 a2_1] 33 (0, 0)) (by (with_reducible repeat (first | refine kB ?_ _ | refine kE ?_ | refine kC ?_ _)); refine blk_far ?_ NB643_648.out _; (with_reducible repeat (first | refine kB ?_ _ | refine kE ?_ | refine kC ?_ _)); refine blk_far ?_ NB643_648.out _; (with_reducible repeat (first | refine kB ?_ _ | refine kE ?_ | refine kC ?_ _)); exact BK643.out) hb); have n2_ := Aside0.mk (kI (g := gb644) (o := .cells #[.int .i64 a3_0, .int .i64 a3_1] 33 (0, 0)) (by (with_reducible repeat (first | refine kB ?_ _ | refine kE ?_ | refine kC ?_ _)); refine blk_far ?_ NB644_648.out _; (with_reducible repeat (first | refine kB ?_ _ | refine kE ?_ | refine kC ?_ _)); refine blk_far ?_ NB644_648.out _; (with_reducible repeat (first | refine kB ?_ _ | refine kE ?_ | refine kC ?_ _)); exact BK644.out) hb); have n3_ := Aside0.mk (kI (g := gb648) (o := .cells #[.int .i64 t645, .int .i64 t646] 33 (0, 0)) (by (with_reducible repeat (first | refine kB ?_ _ | refine kE ?_ | refine kC ?_ _)); refine blk_put (cs := #[.int .i64 t645, .int .i64 0]) ?_ 1 _ rfl; (with_reducible repeat (first | refine kB ?_ _ | refine kE ?_ | refine kC ?_ _)); refine blk_put (cs := #[.int .i64 0, .int .i64 0]) ?_ 0 _ rfl; (with_reducible repeat (first | refine kB ?_ _ | refine kE ?_ | refine kC ?_ _)); exact BK648.out) hb); have n4_ := Aside0.mk (kM (by repeat (first | (with_reducible first | exact HB.out | apply kG | apply kD | apply kF | refine kA ?_ GE642.out | refine kA ?_ GE643.out | refine kA ?_ GE644.out | refine kA ?_ GE648.out) | exact HB.out)) hb); clear BK642; clear BK643; clear BK644; clear BK648; clear HB; have BK642 := n0_; have BK643 := n1_; have BK644 := n2_; have BK648 := n3_; have HB := n4_; clear n0_ n1_ n2_ n3_ n4_; (try clear hb); (try clear hb2); (try clear hk); (try clear hi)) | ((with_reducible refine gate_dst (N := 11) rfl ?_); refine box_event ?hg (N := 11) ?hd (cs := #[.int .i64 0, .int .i64 0]) (t := 33) ?hr ?_; (case hd => rfl); (case hg => rfl); (case hr => first | (go_simp; done) | (go_simp; rfl)); intro gb652 hg w39 hbox hb; have n0_ := Aside0.mk (kI (g := gb642) (o := .cells #[.int .i64 a0_0, .int .i64 a0_1] 23 (0, 0)) (by (with_reducible repeat (first | refine kB ?_ _ | refine kE ?_ | refine kC ?_ _)); exact BK642.out) hb); have n1_ := Aside0.mk (kI (g := gb643) (o := .cells #[.int .i64 a2_0, .int .i64 a2_1] 33 (0, 0)) (by (with_reducible repeat (first | refine kB ?_ _ | refine kE ?_ | refine kC ?_ _)); exact BK643.out) hb); have n2_ := Aside0.mk (kI (g := gb644) (o := .cells #[.int .i64 a3_0, .int .i64 a3_1] 33 (0, 0)) (by (with_reducible repeat (first | refine kB ?_ _ | refine kE ?_ | refine kC ?_ _)); exact BK644.out) hb); have n3_ := Aside0.mk (kI (g := gb648) (o := .cells #[.int .i64 t645, .int .i64 t646] 33 (0, 0)) (by (with_reducible repeat (first | refine kB ?_ _ | refine kE ?_ | refine kC ?_ _)); exact BK648.out) hb); have n4_ := Aside0.mk (kM (by repeat (first | (with_reducible first | exact HB.out | apply kG | apply kD | apply kF | refine kA ?_ GE642.out | refine kA ?_ GE643.out | refine kA ?_ GE644.out | refine kA ?_ GE648.out) | exact HB.out)) hb); have n5_ := Aside0.mk (hbox); have n6_ := Aside0.mk ((by rw [hg]; exact (kK (by repeat (first | (with_reducible first | exact HB.out | apply kG | apply kD | apply kF | refine kA ?_ GE642.out | refine kA ?_ GE643.out | refine kA ?_ GE644.out | refine kA ?_ GE648.out) | exact HB.out))) : w.heap.size ≤ gb652)); have n7_ := Aside0.mk ((by rw [hg]; exact (kK (by repeat (first | (with_reducible first | exact HB.out | apply kG | apply kD | apply kF | refine kA ?_ GE642.out | refine kA ?_ GE643.out | refine kA ?_ GE644.out | refine kA ?_ GE648.out) | exact HB.out))) : w.heap.size ≤ gb652)); have n8_ := Aside0.mk ((by rw [hg]; exact Nat.ne_of_lt (kP (g := gb642) (o := .cells #[.int .i64 a0_0, .int .i64 a0_1] 23 (0, 0)) (by (with_reducible repeat (first | refine kB ?_ _ | refine kE ?_ | refine kC ?_ _)); exact BK642.out)) : gb642 ≠ gb652)); have n9_ := Aside0.mk ((by rw [hg]; exact Nat.ne_of_gt (kP (g := gb642) (o := .cells #[.int .i64 a0_0, .int .i64 a0_1] 23 (0, 0)) (by (with_reducible repeat (first | refine kB ?_ _ | refine kE ?_ | refine kC ?_ _)); exact BK642.out)) : gb652 ≠ gb642)); have n10_ := Aside0.mk ((by rw [hg]; exact Nat.ne_of_lt (kP (g := gb643) (o := .cells #[.int .i64 a2_0, .int .i64 a2_1] 33 (0, 0)) (by (with_reducible repeat (first | refine kB ?_ _ | refine kE ?_ | refine kC ?_ _)); exact BK643.out)) : gb643 ≠ gb652)); have n11_ := Aside0.mk ((by rw [hg]; exact Nat.ne_of_gt (kP (g := gb643) (o := .cells #[.int .i64 a2_0, .int .i64 a2_1] 33 (0, 0)) (by (with_reducible repeat (first | refine kB ?_ _ | refine kE ?_ | refine kC ?_ _)); exact BK643.out)) : gb652 ≠ gb643)); have n12_ := Aside0.mk ((by rw [hg]; exact Nat.ne_of_lt (kP (g := gb644) (o := .cells #[.int .i64 a3_0, .int .i64 a3_1] 33 (0, 0)) (by (with_reducible repeat (first | refine kB ?_ _ | refine kE ?_ | refine kC ?_ _)); exact BK644.out)) : gb644 ≠ gb652)); have n13_ := Aside0.mk ((by rw [hg]; exact Nat.ne_of_gt (kP (g := gb644) (o := .cells #[.int .i64 a3_0, .int .i64 a3_1] 33 (0, 0)) (by (with_reducible repeat (first | refine kB ?_ _ | refine kE ?_ | refine kC ?_ _)); exact BK644.out)) : gb652 ≠ gb644)); have n14_ := Aside0.mk ((by rw [hg]; exact Nat.ne_of_lt (kP (g := gb648) (o := .cells #[.int .i64 t645, .int .i64 t646] 33 (0, 0)) (by (with_reducible repeat (first | refine kB ?_ _ | refine kE ?_ | refine kC ?_ _)); exact BK648.out)) : gb648 ≠ gb652)); have n15_ := Aside0.mk ((by rw [hg]; exact Nat.ne_of_gt (kP (g := gb648) (o := .cells #[.int .i64 t645, .int .i64 t646] 33 (0, 0)) (by (with_reducible repeat (first | refine kB ?_ _ | refine kE ?_ | refine kC ?_ _)); exact BK648.out)) : gb652 ≠ gb648)); clear BK642; clear BK643; clear BK644; clear BK648; clear HB; have BK642 := n0_; have BK643 := n1_; have BK644 := n2_; have BK648 := n3_; have HB := n4_; have BK652 := n5_; have GW652 := n6_; have GE652 := n7_; have NB642_652 := n8_; have NB652_642 := n9_; have NB643_652 := n10_; have NB652_643 := n11_; have NB644_652 := n12_; have NB652_644 := n13_; have NB648_652 := n14_; have NB652_648 := n15_; clear n0_ n1_ n2_ n3_ n4_ n5_ n6_ n7_ n8_ n9_ n10_ n11_ n12_ n13_ n14_ n15_; clear hb hbox hg; have hnb40 := NB652_642.out; have hnc40 := NB642_652.out; have hnb41 := NB652_643.out; have hnc41 := NB643_652.out; have hnb42 := NB652_644.out; have hnc42 := NB644_652.out; have hnb43 := NB652_648.out; have hnc43 := NB648_652.out; have hcz44_0 : w39.cell? ⟨gb652, 0, none⟩ = some (.int .i64 0) := (kH BK652.out 0).trans rfl; have hcz44_1 : w39.cell? ⟨gb652, 1, none⟩ = some (.int .i64 0) := (kH BK652.out 1).trans rfl; have hfz44_0 := kJ BK652.out 0; have hfz44_1 := kJ BK652.out 1; have hcz45_0 : w39.cell? ⟨gb642, 0, none⟩ = some (.int .i64 a0_0) := (kH BK642.out 0).trans rfl; have hcz45_1 : w39.cell? ⟨gb642, 1, none⟩ = some (.int .i64 a0_1) := (kH BK642.out 1).trans rfl; have hfz45_0 := kJ BK642.out 0; have hfz45_1 := kJ BK642.out 1) | ((with_reducible refine kL (f := 28) rfl ?_); refine goesL_ (some 37) rfl rfl Try.func28 (by kernel_rfl) rfl #[.agg #[.int .i64 a0_0, .int .i64 a0_1]] rfl (by (try simp only [List.map_toArray, List.map_cons, List.map_nil]); first | done | rfl | (simp only [List.length_drop, List.length_take]; rfl)) ?_; (with_reducible refine (day_Start.calls k a0_0 a0_1 t653 t654 t655 _ A7.out).mono ?_); rintro e w46 ⟨rfl, hb⟩; refine ⟨_, rfl, ?_⟩; have n0_ := Aside0.mk (kI (g := gb642) (o := .cells #[.int .i64 a0_0, .int .i64 a0_1] 23 (0, 0)) (by (with_reducible repeat (first | refine kB ?_ _ | refine kE ?_ | refine kC ?_ _)); refine blk_far ?_ NB642_652.out _; (with_reducible repeat (first | refine kB ?_ _ | refine kE ?_ | refine kC ?_ _)); refine blk_far ?_ NB642_652.out _; (with_reducible repeat (first | refine kB ?_ _ | refine kE ?_ | refine kC ?_ _)); exact BK642.out) hb); have n1_ := Aside0.mk (kI (g := gb643) (o := .cells #[.int .i64 a2_0, .int .i64 a2_1] 33 (0, 0)) (by (with_reducible repeat (first | refine kB ?_ _ | refine kE ?_ | refine kC ?_ _)); refine blk_far ?_ NB643_652.out _; (with_reducible repeat (first | refine kB ?_ _ | refine kE ?_ | refine kC ?_ _)); refine blk_far ?_ NB643_652.out _; (with_reducible repeat (first | refine kB ?_ _ | refine kE ?_ | refine kC ?_ _)); exact BK643.out) hb); have n2_ := Aside0.mk (kI (g := gb644) (o := .cells #[.int .i64 a3_0, .int .i64 a3_1] 33 (0, 0)) (by (with_reducible repeat (first | refine kB ?_ _ | refine kE ?_ | refine kC ?_ _)); refine blk_far ?_ NB644_652.out _; (with_reducible repeat (first | refine kB ?_ _ | refine kE ?_ | refine kC ?_ _)); refine blk_far ?_ NB644_652.out _; (with_reducible repeat (first | refine kB ?_ _ | refine kE ?_ | refine kC ?_ _)); exact BK644.out) hb); have n3_ := Aside0.mk (kI (g := gb648) (o := .cells #[.int .i64 t645, .int .i64 t646] 33 (0, 0)) (by (with_reducible repeat (first | refine kB ?_ _ | refine kE ?_ | refine kC ?_ _)); refine blk_far ?_ NB648_652.out _; (with_reducible repeat (first | refine kB ?_ _ | refine kE ?_ | refine kC ?_ _)); refine blk_far ?_ NB648_652.out _; (with_reducible repeat (first | refine kB ?_ _ | refine kE ?_ | refine kC ?_ _)); exact BK648.out) hb); have n4_ := Aside0.mk (kI (g := gb652) (o := .cells #[.int .i64 t649, .int .i64 t650] 33 (0, 0)) (by (with_reducible repeat (first | refine kB ?_ _ | refine kE ?_ | refine kC ?_ _)); refine blk_put (cs := #[.int .i64 t649, .int .i64 0]) ?_ 1 _ rfl; (with_reducible repeat (first | refine kB ?_ _ | refine kE ?_ | refine kC ?_ _)); refine blk_put (cs := #[.int .i64 0, .int .i64 0]) ?_ 0 _ rfl; (with_reducible repeat (first | refine kB ?_ _ | refine kE ?_ | refine kC ?_ _)); exact BK652.out) hb); have n5_ := Aside0.mk (kM (by repeat (first | (with_reducible first | exact HB.out | apply kG | apply kD | apply kF | refine kA ?_ GE642.out | refine kA ?_ GE643.out | refine kA ?_ GE644.out | refine kA ?_ GE648.out | refine kA ?_ GE652.out) | exact HB.out)) hb); clear BK642; clear BK643; clear BK644; clear BK648; clear BK652; clear HB; have BK642 := n0_; have BK643 := n1_; have BK644 := n2_; have BK648 := n3_; have BK652 := n4_; have HB := n5_; clear n0_ n1_ n2_ n3_ n4_ n5_; (try clear hb); (try clear hb2); (try clear hk); (try clear hi)) | ((with_reducible refine gate_dst (N := 13) rfl ?_); refine box_event ?hg (N := 13) ?hd (cs := #[.int .i64 0, .int .i64 0]) (t := 33) ?hr ?_; (case hd => rfl); (case hg => rfl); (case hr => first | (go_simp; done) | (go_simp; rfl)); intro gb656 hg w47 hbox hb; have n0_ := Aside0.mk (kI (g := gb642) (o := .cells #[.int .i64 a0_0, .int .i64 a0_1] 23 (0, 0)) (by (with_reducible repeat (first | refine kB ?_ _ | refine kE ?_ | refine kC ?_ _)); exact BK642.out) hb); have n1_ := Aside0.mk (kI (g := gb643) (o := .cells #[.int .i64 a2_0, .int .i64 a2_1] 33 (0, 0)) (by (with_reducible repeat (first | refine kB ?_ _ | refine kE ?_ | refine kC ?_ _)); exact BK643.out) hb); have n2_ := Aside0.mk (kI (g := gb644) (o := .cells #[.int .i64 a3_0, .int .i64 a3_1] 33 (0, 0)) (by (with_reducible repeat (first | refine kB ?_ _ | refine kE ?_ | refine kC ?_ _)); exact BK644.out) hb); have n3_ := Aside0.mk (kI (g := gb648) (o := .cells #[.int .i64 t645, .int .i64 t646] 33 (0, 0)) (by (with_reducible repeat (first | refine kB ?_ _ | refine kE ?_ | refine kC ?_ _)); exact BK648.out) hb); have n4_ := Aside0.mk (kI (g := gb652) (o := .cells #[.int .i64 t649, .int .i64 t650] 33 (0, 0)) (by (with_reducible repeat (first | refine kB ?_ _ | refine kE ?_ | refine kC ?_ _)); exact BK652.out) hb); have n5_ := Aside0.mk (kM (by repeat (first | (with_reducible first | exact HB.out | apply kG | apply kD | apply kF | refine kA ?_ GE642.out | refine kA ?_ GE643.out | refine kA ?_ GE644.out | refine kA ?_ GE648.out | refine kA ?_ GE652.out) | exact HB.out)) hb); have n6_ := Aside0.mk (hbox); have n7_ := Aside0.mk ((by rw [hg]; exact (kK (by repeat (first | (with_reducible first | exact HB.out | apply kG | apply kD | apply kF | refine kA ?_ GE642.out | refine kA ?_ GE643.out | refine kA ?_ GE644.out | refine kA ?_ GE648.out | refine kA ?_ GE652.out) | exact HB.out))) : w.heap.size ≤ gb656)); have n8_ := Aside0.mk ((by rw [hg]; exact (kK (by repeat (first | (with_reducible first | exact HB.out | apply kG | apply kD | apply kF | refine kA ?_ GE642.out | refine kA ?_ GE643.out | refine kA ?_ GE644.out | refine kA ?_ GE648.out | refine kA ?_ GE652.out) | exact HB.out))) : w.heap.size ≤ gb656)); have n9_ := Aside0.mk ((by rw [hg]; exact Nat.ne_of_lt (kP (g := gb642) (o := .cells #[.int .i64 a0_0, .int .i64 a0_1] 23 (0, 0)) (by (with_reducible repeat (first | refine kB ?_ _ | refine kE ?_ | refine kC ?_ _)); exact BK642.out)) : gb642 ≠ gb656)); have n10_ := Aside0.mk ((by rw [hg]; exact Nat.ne_of_gt (kP (g := gb642) (o := .cells #[.int .i64 a0_0, .int .i64 a0_1] 23 (0, 0)) (by (with_reducible repeat (first | refine kB ?_ _ | refine kE ?_ | refine kC ?_ _)); exact BK642.out)) : gb656 ≠ gb642)); have n11_ := Aside0.mk ((by rw [hg]; exact Nat.ne_of_lt (kP (g := gb643) (o := .cells #[.int .i64 a2_0, .int .i64 a2_1] 33 (0, 0)) (by (with_reducible repeat (first | refine kB ?_ _ | refine kE ?_ | refine kC ?_ _)); exact BK643.out)) : gb643 ≠ gb656)); have n12_ := Aside0.mk ((by rw [hg]; exact Nat.ne_of_gt (kP (g := gb643) (o := .cells #[.int .i64 a2_0, .int .i64 a2_1] 33 (0, 0)) (by (with_reducible repeat (first | refine kB ?_ _ | refine kE ?_ | refine kC ?_ _)); exact BK643.out)) : gb656 ≠ gb643)); have n13_ := Aside0.mk ((by rw [hg]; exact Nat.ne_of_lt (kP (g := gb644) (o := .cells #[.int .i64 a3_0, .int .i64 a3_1] 33 (0, 0)) (by (with_reducible repeat (first | refine kB ?_ _ | refine kE ?_ | refine kC ?_ _)); exact BK644.out)) : gb644 ≠ gb656)); have n14_ := Aside0.mk ((by rw [hg]; exact Nat.ne_of_gt (kP (g := gb644) (o := .cells #[.int .i64 a3_0, .int .i64 a3_1] 33 (0, 0)) (by (with_reducible repeat (first | refine kB ?_ _ | refine kE ?_ | refine kC ?_ _)); exact BK644.out)) : gb656 ≠ gb644)); have n15_ := Aside0.mk ((by rw [hg]; exact Nat.ne_of_lt (kP (g := gb648) (o := .cells #[.int .i64 t645, .int .i64 t646] 33 (0, 0)) (by (with_reducible repeat (first | refine kB ?_ _ | refine kE ?_ | refine kC ?_ _)); exact BK648.out)) : gb648 ≠ gb656)); have n16_ := Aside0.mk ((by rw [hg]; exact Nat.ne_of_gt (kP (g := gb648) (o := .cells #[.int .i64 t645, .int .i64 t646] 33 (0, 0)) (by (with_reducible repeat (first | refine kB ?_ _ | refine kE ?_ | refine kC ?_ _)); exact BK648.out)) : gb656 ≠ gb648)); have n17_ := Aside0.mk ((by rw [hg]; exact Nat.ne_of_lt (kP (g := gb652) (o := .cells #[.int .i64 t649, .int .i64 t650] 33 (0, 0)) (by (with_reducible repeat (first | refine kB ?_ _ | refine kE ?_ | refine kC ?_ _)); exact BK652.out)) : gb652 ≠ gb656)); have n18_ := Aside0.mk ((by rw [hg]; exact Nat.ne_of_gt (kP (g := gb652) (o := .cells #[.int .i64 t649, .int .i64 t650] 33 (0, 0)) (by (with_reducible repeat (first | refine kB ?_ _ | refine kE ?_ | refine kC ?_ _)); exact BK652.out)) : gb656 ≠ gb652)); clear BK642; clear BK643; clear BK644; clear BK648; clear BK652; clear HB; have BK642 := n0_; have BK643 := n1_; have BK644 := n2_; have BK648 := n3_; have BK652 := n4_; have HB := n5_; have BK656 := n6_; have GW656 := n7_; have GE656 := n8_; have NB642_656 := n9_; have NB656_642 := n10_; have NB643_656 := n11_; have NB656_643 := n12_; have NB644_656 := n13_; have NB656_644 := n14_; have NB648_656 := n15_; have NB656_648 := n16_; have NB652_656 := n17_; have NB656_652 := n18_; clear n0_ n1_ n2_ n3_ n4_ n5_ n6_ n7_ n8_ n9_ n10_ n11_ n12_ n13_ n14_ n15_ n16_ n17_ n18_; clear hb hbox hg; have hnb48 := NB656_642.out; have hnc48 := NB642_656.out; have hnb49 := NB656_643.out; have hnc49 := NB643_656.out; have hnb50 := NB656_644.out; have hnc50 := NB644_656.out; have hnb51 := NB656_648.out; have hnc51 := NB648_656.out; have hnb52 := NB656_652.out; have hnc52 := NB652_656.out; have hcz53_0 : w47.cell? ⟨gb656, 0, none⟩ = some (.int .i64 0) := (kH BK656.out 0).trans rfl; have hcz53_1 : w47.cell? ⟨gb656, 1, none⟩ = some (.int .i64 0) := (kH BK656.out 1).trans rfl; have hfz53_0 := kJ BK656.out 0; have hfz53_1 := kJ BK656.out 1; have hcz54_0 : w47.cell? ⟨gb642, 0, none⟩ = some (.int .i64 a0_0) := (kH BK642.out 0).trans rfl; have hcz54_1 : w47.cell? ⟨gb642, 1, none⟩ = some (.int .i64 a0_1) := (kH BK642.out 1).trans rfl; have hfz54_0 := kJ BK642.out 0; have hfz54_1 := kJ BK642.out 1) | ((with_reducible refine kL (f := 29) rfl ?_); refine goesL_ (some 42) rfl rfl Try.func29 (by kernel_rfl) rfl #[.agg #[.int .i64 a0_0, .int .i64 a0_1]] rfl (by (try simp only [List.map_toArray, List.map_cons, List.map_nil]); first | done | rfl | (simp only [List.length_drop, List.length_take]; rfl)) ?_; (with_reducible refine (computusref15_Start.calls k a0_0 a0_1 t657 t658 t659 _ A8.out).mono ?_); rintro e w55 ⟨rfl, hb⟩; refine ⟨_, rfl, ?_⟩; have n0_ := Aside0.mk (kI (g := gb642) (o := .cells #[.int .i64 a0_0, .int .i64 a0_1] 23 (0, 0)) (by (with_reducible repeat (first | refine kB ?_ _ | refine kE ?_ | refine kC ?_ _)); refine blk_far ?_ NB642_656.out _; (with_reducible repeat (first | refine kB ?_ _ | refine kE ?_ | refine kC ?_ _)); refine blk_far ?_ NB642_656.out _; (with_reducible repeat (first | refine kB ?_ _ | refine kE ?_ | refine kC ?_ _)); exact BK642.out) hb); have n1_ := Aside0.mk (kI (g := gb643) (o := .cells #[.int .i64 a2_0, .int .i64 a2_1] 33 (0, 0)) (by (with_reducible repeat (first | refine kB ?_ _ | refine kE ?_ | refine kC ?_ _)); refine blk_far ?_ NB643_656.out _; (with_reducible repeat (first | refine kB ?_ _ | refine kE ?_ | refine kC ?_ _)); refine blk_far ?_ NB643_656.out _; (with_reducible repeat (first | refine kB ?_ _ | refine kE ?_ | refine kC ?_ _)); exact BK643.out) hb); have n2_ := Aside0.mk (kI (g := gb644) (o := .cells #[.int .i64 a3_0, .int .i64 a3_1] 33 (0, 0)) (by (with_reducible repeat (first | refine kB ?_ _ | refine kE ?_ | refine kC ?_ _)); refine blk_far ?_ NB644_656.out _; (with_reducible repeat (first | refine kB ?_ _ | refine kE ?_ | refine kC ?_ _)); refine blk_far ?_ NB644_656.out _; (with_reducible repeat (first | refine kB ?_ _ | refine kE ?_ | refine kC ?_ _)); exact BK644.out) hb); have n3_ := Aside0.mk (kI (g := gb648) (o := .cells #[.int .i64 t645, .int .i64 t646] 33 (0, 0)) (by (with_reducible repeat (first | refine kB ?_ _ | refine kE ?_ | refine kC ?_ _)); refine blk_far ?_ NB648_656.out _; (with_reducible repeat (first | refine kB ?_ _ | refine kE ?_ | refine kC ?_ _)); refine blk_far ?_ NB648_656.out _; (with_reducible repeat (first | refine kB ?_ _ | refine kE ?_ | refine kC ?_ _)); exact BK648.out) hb); have n4_ := Aside0.mk (kI (g := gb652) (o := .cells #[.int .i64 t649, .int .i64 t650] 33 (0, 0)) (by (with_reducible repeat (first | refine kB ?_ _ | refine kE ?_ | refine kC ?_ _)); refine blk_far ?_ NB652_656.out _; (with_reducible repeat (first | refine kB ?_ _ | refine kE ?_ | refine kC ?_ _)); refine blk_far ?_ NB652_656.out _; (with_reducible repeat (first | refine kB ?_ _ | refine kE ?_ | refine kC ?_ _)); exact BK652.out) hb); have n5_ := Aside0.mk (kI (g := gb656) (o := .cells #[.int .i64 t653, .int .i64 t654] 33 (0, 0)) (by (with_reducible repeat (first | refine kB ?_ _ | refine kE ?_ | refine kC ?_ _)); refine blk_put (cs := #[.int .i64 t653, .int .i64 0]) ?_ 1 _ rfl; (with_reducible repeat (first | refine kB ?_ _ | refine kE ?_ | refine kC ?_ _)); refine blk_put (cs := #[.int .i64 0, .int .i64 0]) ?_ 0 _ rfl; (with_reducible repeat (first | refine kB ?_ _ | refine kE ?_ | refine kC ?_ _)); exact BK656.out) hb); have n6_ := Aside0.mk (kM (by repeat (first | (with_reducible first | exact HB.out | apply kG | apply kD | apply kF | refine kA ?_ GE642.out | refine kA ?_ GE643.out | refine kA ?_ GE644.out | refine kA ?_ GE648.out | refine kA ?_ GE652.out | refine kA ?_ GE656.out) | exact HB.out)) hb); clear BK642; clear BK643; clear BK644; clear BK648; clear BK652; clear BK656; clear HB; have BK642 := n0_; have BK643 := n1_; have BK644 := n2_; have BK648 := n3_; have BK652 := n4_; have BK656 := n5_; have HB := n6_; clear n0_ n1_ n2_ n3_ n4_ n5_ n6_; (try clear hb); (try clear hb2); (try clear hk); (try clear hi)) | ((with_reducible refine gate_dst (N := 15) rfl ?_); refine box_event ?hg (N := 15) ?hd (cs := #[.int .i64 0, .int .i64 0]) (t := 33) ?hr ?_; (case hd => rfl); (case hg => rfl); (case hr => first | (go_simp; done) | (go_simp; rfl)); intro gb660 hg w56 hbox hb; have n0_ := Aside0.mk (kI (g := gb642) (o := .cells #[.int .i64 a0_0, .int .i64 a0_1] 23 (0, 0)) (by (with_reducible repeat (first | refine kB ?_ _ | refine kE ?_ | refine kC ?_ _)); exact BK642.out) hb); have n1_ := Aside0.mk (kI (g := gb643) (o := .cells #[.int .i64 a2_0, .int .i64 a2_1] 33 (0, 0)) (by (with_reducible repeat (first | refine kB ?_ _ | refine kE ?_ | refine kC ?_ _)); exact BK643.out) hb); have n2_ := Aside0.mk (kI (g := gb644) (o := .cells #[.int .i64 a3_0, .int .i64 a3_1] 33 (0, 0)) (by (with_reducible repeat (first | refine kB ?_ _ | refine kE ?_ | refine kC ?_ _)); exact BK644.out) hb); have n3_ := Aside0.mk (kI (g := gb648) (o := .cells #[.int .i64 t645, .int .i64 t646] 33 (0, 0)) (by (with_reducible repeat (first | refine kB ?_ _ | refine kE ?_ | refine kC ?_ _)); exact BK648.out) hb); have n4_ := Aside0.mk (kI (g := gb652) (o := .cells #[.int .i64 t649, .int .i64 t650] 33 (0, 0)) (by (with_reducible repeat (first | refine kB ?_ _ | refine kE ?_ | refine kC ?_ _)); exact BK652.out) hb); have n5_ := Aside0.mk (kI (g := gb656) (o := .cells #[.int .i64 t653, .int .i64 t654] 33 (0, 0)) (by (with_reducible repeat (first | refine kB ?_ _ | refine kE ?_ | refine kC ?_ _)); exact BK656.out) hb); have n6_ := Aside0.mk (kM (by repeat (first | (with_reducible first | exact HB.out | apply kG | apply kD | apply kF | refine kA ?_ GE642.out | refine kA ?_ GE643.out | refine kA ?_ GE644.out | refine kA ?_ GE648.out | refine kA ?_ GE652.out | refine kA ?_ GE656.out) | exact HB.out)) hb); have n7_ := Aside0.mk (hbox); have n8_ := Aside0.mk ((by rw [hg]; exact (kK (by repeat (first | (with_reducible first | exact HB.out | apply kG | apply kD | apply kF | refine kA ?_ GE642.out | refine kA ?_ GE643.out | refine kA ?_ GE644.out | refine kA ?_ GE648.out | refine kA ?_ GE652.out | refine kA ?_ GE656.out) | exact HB.out))) : w.heap.size ≤ gb660)); have n9_ := Aside0.mk ((by rw [hg]; exact (kK (by repeat (first | (with_reducible first | exact HB.out | apply kG | apply kD | apply kF | refine kA ?_ GE642.out | refine kA ?_ GE643.out | refine kA ?_ GE644.out | refine kA ?_ GE648.out | refine kA ?_ GE652.out | refine kA ?_ GE656.out) | exact HB.out))) : w.heap.size ≤ gb660)); have n10_ := Aside0.mk ((by rw [hg]; exact Nat.ne_of_lt (kP (g := gb642) (o := .cells #[.int .i64 a0_0, .int .i64 a0_1] 23 (0, 0)) (by (with_reducible repeat (first | refine kB ?_ _ | refine kE ?_ | refine kC ?_ _)); exact BK642.out)) : gb642 ≠ gb660)); have n11_ := Aside0.mk ((by rw [hg]; exact Nat.ne_of_gt (kP (g := gb642) (o := .cells #[.int .i64 a0_0, .int .i64 a0_1] 23 (0, 0)) (by (with_reducible repeat (first | refine kB ?_ _ | refine kE ?_ | refine kC ?_ _)); exact BK642.out)) : gb660 ≠ gb642)); have n12_ := Aside0.mk ((by rw [hg]; exact Nat.ne_of_lt (kP (g := gb643) (o := .cells #[.int .i64 a2_0, .int .i64 a2_1] 33 (0, 0)) (by (with_reducible repeat (first | refine kB ?_ _ | refine kE ?_ | refine kC ?_ _)); exact BK643.out)) : gb643 ≠ gb660)); have n13_ := Aside0.mk ((by rw [hg]; exact Nat.ne_of_gt (kP (g := gb643) (o := .cells #[.int .i64 a2_0, .int .i64 a2_1] 33 (0, 0)) (by (with_reducible repeat (first | refine kB ?_ _ | refine kE ?_ | refine kC ?_ _)); exact BK643.out)) : gb660 ≠ gb643)); have n14_ := Aside0.mk ((by rw [hg]; exact Nat.ne_of_lt (kP (g := gb644) (o := .cells #[.int .i64 a3_0, .int .i64 a3_1] 33 (0, 0)) (by (with_reducible repeat (first | refine kB ?_ _ | refine kE ?_ | refine kC ?_ _)); exact BK644.out)) : gb644 ≠ gb660)); have n15_ := Aside0.mk ((by rw [hg]; exact Nat.ne_of_gt (kP (g := gb644) (o := .cells #[.int .i64 a3_0, .int .i64 a3_1] 33 (0, 0)) (by (with_reducible repeat (first | refine kB ?_ _ | refine kE ?_ | refine kC ?_ _)); exact BK644.out)) : gb660 ≠ gb644)); have n16_ := Aside0.mk ((by rw [hg]; exact Nat.ne_of_lt (kP (g := gb648) (o := .cells #[.int .i64 t645, .int .i64 t646] 33 (0, 0)) (by (with_reducible repeat (first | refine kB ?_ _ | refine kE ?_ | refine kC ?_ _)); exact BK648.out)) : gb648 ≠ gb660)); have n17_ := Aside0.mk ((by rw [hg]; exact Nat.ne_of_gt (kP (g := gb648) (o := .cells #[.int .i64 t645, .int .i64 t646] 33 (0, 0)) (by (with_reducible repeat (first | refine kB ?_ _ | refine kE ?_ | refine kC ?_ _)); exact BK648.out)) : gb660 ≠ gb648)); have n18_ := Aside0.mk ((by rw [hg]; exact Nat.ne_of_lt (kP (g := gb652) (o := .cells #[.int .i64 t649, .int .i64 t650] 33 (0, 0)) (by (with_reducible repeat (first | refine kB ?_ _ | refine kE ?_ | refine kC ?_ _)); exact BK652.out)) : gb652 ≠ gb660)); have n19_ := Aside0.mk ((by rw [hg]; exact Nat.ne_of_gt (kP (g := gb652) (o := .cells #[.int .i64 t649, .int .i64 t650] 33 (0, 0)) (by (with_reducible repeat (first | refine kB ?_ _ | refine kE ?_ | refine kC ?_ _)); exact BK652.out)) : gb660 ≠ gb652)); have n20_ := Aside0.mk ((by rw [hg]; exact Nat.ne_of_lt (kP (g := gb656) (o := .cells #[.int .i64 t653, .int .i64 t654] 33 (0, 0)) (by (with_reducible repeat (first | refine kB ?_ _ | refine kE ?_ | refine kC ?_ _)); exact BK656.out)) : gb656 ≠ gb660)); have n21_ := Aside0.mk ((by rw [hg]; exact Nat.ne_of_gt (kP (g := gb656) (o := .cells #[.int .i64 t653, .int .i64 t654] 33 (0, 0)) (by (with_reducible repeat (first | refine kB ?_ _ | refine kE ?_ | refine kC ?_ _)); exact BK656.out)) : gb660 ≠ gb656)); clear BK642; clear BK643; clear BK644; clear BK648; clear BK652; clear BK656; clear HB; have BK642 := n0_; have BK643 := n1_; have BK644 := n2_; have BK648 := n3_; have BK652 := n4_; have BK656 := n5_; have HB := n6_; have BK660 := n7_; have GW660 := n8_; have GE660 := n9_; have NB642_660 := n10_; have NB660_642 := n11_; have NB643_660 := n12_; have NB660_643 := n13_; have NB644_660 := n14_; have NB660_644 := n15_; have NB648_660 := n16_; have NB660_648 := n17_; have NB652_660 := n18_; have NB660_652 := n19_; have NB656_660 := n20_; have NB660_656 := n21_; clear n0_ n1_ n2_ n3_ n4_ n5_ n6_ n7_ n8_ n9_ n10_ n11_ n12_ n13_ n14_ n15_ n16_ n17_ n18_ n19_ n20_ n21_; clear hb hbox hg; have hnb57 := NB660_642.out; have hnc57 := NB642_660.out; have hnb58 := NB660_643.out; have hnc58 := NB643_660.out; have hnb59 := NB660_644.out; have hnc59 := NB644_660.out; have hnb60 := NB660_648.out; have hnc60 := NB648_660.out; have hnb61 := NB660_652.out; have hnc61 := NB652_660.out; have hnb62 := NB660_656.out; have hnc62 := NB656_660.out; have hcz63_0 : w56.cell? ⟨gb660, 0, none⟩ = some (.int .i64 0) := (kH BK660.out 0).trans rfl; have hcz63_1 : w56.cell? ⟨gb660, 1, none⟩ = some (.int .i64 0) := (kH BK660.out 1).trans rfl; have hfz63_0 := kJ BK660.out 0; have hfz63_1 := kJ BK660.out 1; have hnb64 := NB643_644.out; have hnc64 := NB644_643.out; have hcz65_0 : w56.cell? ⟨gb643, 0, none⟩ = some (.int .i64 a2_0) := (kH BK643.out 0).trans rfl; have hcz65_1 : w56.cell? ⟨gb643, 1, none⟩ = some (.int .i64 a2_1) := (kH BK643.out 1).trans rfl; have hfz65_0 := kJ BK643.out 0; have hfz65_1 := kJ BK643.out 1) | ((with_reducible refine kL (f := 16) rfl ?_); refine goesL_ (some 47) rfl rfl Try.func16 (by kernel_rfl) rfl #[.agg #[.int .i64 a2_0, .int .i64 a2_1]] rfl (by (try simp only [List.map_toArray, List.map_cons, List.map_nil]); first | done | rfl | (simp only [List.length_drop, List.length_take]; rfl)) ?_; (with_reducible refine (day_Of.calls k a2_0 a2_1 t661 t662 t663 t664 _ A9.out).mono ?_); rintro e w66 ⟨rfl, hb⟩; refine ⟨_, rfl, ?_⟩; have n0_ := Aside0.mk (kI (g := gb642) (o := .cells #[.int .i64 a0_0, .int .i64 a0_1] 23 (0, 0)) (by (with_reducible repeat (first | refine kB ?_ _ | refine kE ?_ | refine kC ?_ _)); refine blk_far ?_ NB642_660.out _; (with_reducible repeat (first | refine kB ?_ _ | refine kE ?_ | refine kC ?_ _)); refine blk_far ?_ NB642_660.out _; (with_reducible repeat (first | refine kB ?_ _ | refine kE ?_ | refine kC ?_ _)); exact BK642.out) hb); have n1_ := Aside0.mk (kI (g := gb643) (o := .cells #[.int .i64 a2_0, .int .i64 a2_1] 33 (0, 0)) (by (with_reducible repeat (first | refine kB ?_ _ | refine kE ?_ | refine kC ?_ _)); refine blk_far ?_ NB643_660.out _; (with_reducible repeat (first | refine kB ?_ _ | refine kE ?_ | refine kC ?_ _)); refine blk_far ?_ NB643_660.out _; (with_reducible repeat (first | refine kB ?_ _ | refine kE ?_ | refine kC ?_ _)); exact BK643.out) hb); have n2_ := Aside0.mk (kI (g := gb644) (o := .cells #[.int .i64 a3_0, .int .i64 a3_1] 33 (0, 0)) (by (with_reducible repeat (first | refine kB ?_ _ | refine kE ?_ | refine kC ?_ _)); refine blk_far ?_ NB644_660.out _; (with_reducible repeat (first | refine kB ?_ _ | refine kE ?_ | refine kC ?_ _)); refine blk_far ?_ NB644_660.out _; (with_reducible repeat (first | refine kB ?_ _ | refine kE ?_ | refine kC ?_ _)); exact BK644.out) hb); have n3_ := Aside0.mk (kI (g := gb648) (o := .cells #[.int .i64 t645, .int .i64 t646] 33 (0, 0)) (by (with_reducible repeat (first | refine kB ?_ _ | refine kE ?_ | refine kC ?_ _)); refine blk_far ?_ NB648_660.out _; (with_reducible repeat (first | refine kB ?_ _ | refine kE ?_ | refine kC ?_ _)); refine blk_far ?_ NB648_660.out _; (with_reducible repeat (first | refine kB ?_ _ | refine kE ?_ | refine kC ?_ _)); exact BK648.out) hb); have n4_ := Aside0.mk (kI (g := gb652) (o := .cells #[.int .i64 t649, .int .i64 t650] 33 (0, 0)) (by (with_reducible repeat (first | refine kB ?_ _ | refine kE ?_ | refine kC ?_ _)); refine blk_far ?_ NB652_660.out _; (with_reducible repeat (first | refine kB ?_ _ | refine kE ?_ | refine kC ?_ _)); refine blk_far ?_ NB652_660.out _; (with_reducible repeat (first | refine kB ?_ _ | refine kE ?_ | refine kC ?_ _)); exact BK652.out) hb); have n5_ := Aside0.mk (kI (g := gb656) (o := .cells #[.int .i64 t653, .int .i64 t654] 33 (0, 0)) (by (with_reducible repeat (first | refine kB ?_ _ | refine kE ?_ | refine kC ?_ _)); refine blk_far ?_ NB656_660.out _; (with_reducible repeat (first | refine kB ?_ _ | refine kE ?_ | refine kC ?_ _)); refine blk_far ?_ NB656_660.out _; (with_reducible repeat (first | refine kB ?_ _ | refine kE ?_ | refine kC ?_ _)); exact BK656.out) hb); have n6_ := Aside0.mk (kI (g := gb660) (o := .cells #[.int .i64 t657, .int .i64 t658] 33 (0, 0)) (by (with_reducible repeat (first | refine kB ?_ _ | refine kE ?_ | refine kC ?_ _)); refine blk_put (cs := #[.int .i64 t657, .int .i64 0]) ?_ 1 _ rfl; (with_reducible repeat (first | refine kB ?_ _ | refine kE ?_ | refine kC ?_ _)); refine blk_put (cs := #[.int .i64 0, .int .i64 0]) ?_ 0 _ rfl; (with_reducible repeat (first | refine kB ?_ _ | refine kE ?_ | refine kC ?_ _)); exact BK660.out) hb); have n7_ := Aside0.mk (kM (by repeat (first | (with_reducible first | exact HB.out | apply kG | apply kD | apply kF | refine kA ?_ GE642.out | refine kA ?_ GE643.out | refine kA ?_ GE644.out | refine kA ?_ GE648.out | refine kA ?_ GE652.out | refine kA ?_ GE656.out | refine kA ?_ GE660.out) | exact HB.out)) hb); clear BK642; clear BK643; clear BK644; clear BK648; clear BK652; clear BK656; clear BK660; clear HB; have BK642 := n0_; have BK643 := n1_; have BK644 := n2_; have BK648 := n3_; have BK652 := n4_; have BK656 := n5_; have BK660 := n6_; have HB := n7_; clear n0_ n1_ n2_ n3_ n4_ n5_ n6_ n7_; (try clear hb); (try clear hb2); (try clear hk); (try clear hi)) | ((with_reducible refine gate_dst (N := 17) rfl ?_); refine box_event ?hg (N := 17) ?hd (cs := #[.int .i64 0, .int .i64 0]) (t := 23) ?hr ?_; (case hd => rfl); (case hg => rfl); (case hr => first | (go_simp; done) | (go_simp; rfl)); intro gb665 hg w67 hbox hb; have n0_ := Aside0.mk (kI (g := gb642) (o := .cells #[.int .i64 a0_0, .int .i64 a0_1] 23 (0, 0)) (by (with_reducible repeat (first | refine kB ?_ _ | refine kE ?_ | refine kC ?_ _)); exact BK642.out) hb); have n1_ := Aside0.mk (kI (g := gb643) (o := .cells #[.int .i64 a2_0, .int .i64 a2_1] 33 (0, 0)) (by (with_reducible repeat (first | refine kB ?_ _ | refine kE ?_ | refine kC ?_ _)); exact BK643.out) hb); have n2_ := Aside0.mk (kI (g := gb644) (o := .cells #[.int .i64 a3_0, .int .i64 a3_1] 33 (0, 0)) (by (with_reducible repeat (first | refine kB ?_ _ | refine kE ?_ | refine kC ?_ _)); exact BK644.out) hb); have n3_ := Aside0.mk (kI (g := gb648) (o := .cells #[.int .i64 t645, .int .i64 t646] 33 (0, 0)) (by (with_reducible repeat (first | refine kB ?_ _ | refine kE ?_ | refine kC ?_ _)); exact BK648.out) hb); have n4_ := Aside0.mk (kI (g := gb652) (o := .cells #[.int .i64 t649, .int .i64 t650] 33 (0, 0)) (by (with_reducible repeat (first | refine kB ?_ _ | refine kE ?_ | refine kC ?_ _)); exact BK652.out) hb); have n5_ := Aside0.mk (kI (g := gb656) (o := .cells #[.int .i64 t653, .int .i64 t654] 33 (0, 0)) (by (with_reducible repeat (first | refine kB ?_ _ | refine kE ?_ | refine kC ?_ _)); exact BK656.out) hb); have n6_ := Aside0.mk (kI (g := gb660) (o := .cells #[.int .i64 t657, .int .i64 t658] 33 (0, 0)) (by (with_reducible repeat (first | refine kB ?_ _ | refine kE ?_ | refine kC ?_ _)); exact BK660.out) hb); have n7_ := Aside0.mk (kM (by repeat (first | (with_reducible first | exact HB.out | apply kG | apply kD | apply kF | refine kA ?_ GE642.out | refine kA ?_ GE643.out | refine kA ?_ GE644.out | refine kA ?_ GE648.out | refine kA ?_ GE652.out | refine kA ?_ GE656.out | refine kA ?_ GE660.out) | exact HB.out)) hb); have n8_ := Aside0.mk (hbox); have n9_ := Aside0.mk ((by rw [hg]; exact (kK (by repeat (first | (with_reducible first | exact HB.out | apply kG | apply kD | apply kF | refine kA ?_ GE642.out | refine kA ?_ GE643.out | refine kA ?_ GE644.out | refine kA ?_ GE648.out | refine kA ?_ GE652.out | refine kA ?_ GE656.out | refine kA ?_ GE660.out) | exact HB.out))) : w.heap.size ≤ gb665)); have n10_ := Aside0.mk ((by rw [hg]; exact (kK (by repeat (first | (with_reducible first | exact HB.out | apply kG | apply kD | apply kF | refine kA ?_ GE642.out | refine kA ?_ GE643.out | refine kA ?_ GE644.out | refine kA ?_ GE648.out | refine kA ?_ GE652.out | refine kA ?_ GE656.out | refine kA ?_ GE660.out) | exact HB.out))) : w.heap.size ≤ gb665)); have n11_ := Aside0.mk ((by rw [hg]; exact Nat.ne_of_lt (kP (g := gb642) (o := .cells #[.int .i64 a0_0, .int .i64 a0_1] 23 (0, 0)) (by (with_reducible repeat (first | refine kB ?_ _ | refine kE ?_ | refine kC ?_ _)); exact BK642.out)) : gb642 ≠ gb665)); have n12_ := Aside0.mk ((by rw [hg]; exact Nat.ne_of_gt (kP (g := gb642) (o := .cells #[.int .i64 a0_0, .int .i64 a0_1] 23 (0, 0)) (by (with_reducible repeat (first | refine kB ?_ _ | refine kE ?_ | refine kC ?_ _)); exact BK642.out)) : gb665 ≠ gb642)); have n13_ := Aside0.mk ((by rw [hg]; exact Nat.ne_of_lt (kP (g := gb643) (o := .cells #[.int .i64 a2_0, .int .i64 a2_1] 33 (0, 0)) (by (with_reducible repeat (first | refine kB ?_ _ | refine kE ?_ | refine kC ?_ _)); exact BK643.out)) : gb643 ≠ gb665)); have n14_ := Aside0.mk ((by rw [hg]; exact Nat.ne_of_gt (kP (g := gb643) (o := .cells #[.int .i64 a2_0, .int .i64 a2_1] 33 (0, 0)) (by (with_reducible repeat (first | refine kB ?_ _ | refine kE ?_ | refine kC ?_ _)); exact BK643.out)) : gb665 ≠ gb643)); have n15_ := Aside0.mk ((by rw [hg]; exact Nat.ne_of_lt (kP (g := gb644) (o := .cells #[.int .i64 a3_0, .int .i64 a3_1] 33 (0, 0)) (by (with_reducible repeat (first | refine kB ?_ _ | refine kE ?_ | refine kC ?_ _)); exact BK644.out)) : gb644 ≠ gb665)); have n16_ := Aside0.mk ((by rw [hg]; exact Nat.ne_of_gt (kP (g := gb644) (o := .cells #[.int .i64 a3_0, .int .i64 a3_1] 33 (0, 0)) (by (with_reducible repeat (first | refine kB ?_ _ | refine kE ?_ | refine kC ?_ _)); exact BK644.out)) : gb665 ≠ gb644)); have n17_ := Aside0.mk ((by rw [hg]; exact Nat.ne_of_lt (kP (g := gb648) (o := .cells #[.int .i64 t645, .int .i64 t646] 33 (0, 0)) (by (with_reducible repeat (first | refine kB ?_ _ | refine kE ?_ | refine kC ?_ _)); exact BK648.out)) : gb648 ≠ gb665)); have n18_ := Aside0.mk ((by rw [hg]; exact Nat.ne_of_gt (kP (g := gb648) (o := .cells #[.int .i64 t645, .int .i64 t646] 33 (0, 0)) (by (with_reducible repeat (first | refine kB ?_ _ | refine kE ?_ | refine kC ?_ _)); exact BK648.out)) : gb665 ≠ gb648)); have n19_ := Aside0.mk ((by rw [hg]; exact Nat.ne_of_lt (kP (g := gb652) (o := .cells #[.int .i64 t649, .int .i64 t650] 33 (0, 0)) (by (with_reducible repeat (first | refine kB ?_ _ | refine kE ?_ | refine kC ?_ _)); exact BK652.out)) : gb652 ≠ gb665)); have n20_ := Aside0.mk ((by rw [hg]; exact Nat.ne_of_gt (kP (g := gb652) (o := .cells #[.int .i64 t649, .int .i64 t650] 33 (0, 0)) (by (with_reducible repeat (first | refine kB ?_ _ | refine kE ?_ | refine kC ?_ _)); exact BK652.out)) : gb665 ≠ gb652)); have n21_ := Aside0.mk ((by rw [hg]; exact Nat.ne_of_lt (kP (g := gb656) (o := .cells #[.int .i64 t653, .int .i64 t654] 33 (0, 0)) (by (with_reducible repeat (first | refine kB ?_ _ | refine kE ?_ | refine kC ?_ _)); exact BK656.out)) : gb656 ≠ gb665)); have n22_ := Aside0.mk ((by rw [hg]; exact Nat.ne_of_gt (kP (g := gb656) (o := .cells #[.int .i64 t653, .int .i64 t654] 33 (0, 0)) (by (with_reducible repeat (first | refine kB ?_ _ | refine kE ?_ | refine kC ?_ _)); exact BK656.out)) : gb665 ≠ gb656)); have n23_ := Aside0.mk ((by rw [hg]; exact Nat.ne_of_lt (kP (g := gb660) (o := .cells #[.int .i64 t657, .int .i64 t658] 33 (0, 0)) (by (with_reducible repeat (first | refine kB ?_ _ | refine kE ?_ | refine kC ?_ _)); exact BK660.out)) : gb660 ≠ gb665)); have n24_ := Aside0.mk ((by rw [hg]; exact Nat.ne_of_gt (kP (g := gb660) (o := .cells #[.int .i64 t657, .int .i64 t658] 33 (0, 0)) (by (with_reducible repeat (first | refine kB ?_ _ | refine kE ?_ | refine kC ?_ _)); exact BK660.out)) : gb665 ≠ gb660)); clear BK642; clear BK643; clear BK644; clear BK648; clear BK652; clear BK656; clear BK660; clear HB; have BK642 := n0_; have BK643 := n1_; have BK644 := n2_; have BK648 := n3_; have BK652 := n4_; have BK656 := n5_; have BK660 := n6_; have HB := n7_; have BK665 := n8_; have GW665 := n9_; have GE665 := n10_; have NB642_665 := n11_; have NB665_642 := n12_; have NB643_665 := n13_; have NB665_643 := n14_; have NB644_665 := n15_; have NB665_644 := n16_; have NB648_665 := n17_; have NB665_648 := n18_; have NB652_665 := n19_; have NB665_652 := n20_; have NB656_665 := n21_; have NB665_656 := n22_; have NB660_665 := n23_; have NB665_660 := n24_; clear n0_ n1_ n2_ n3_ n4_ n5_ n6_ n7_ n8_ n9_ n10_ n11_ n12_ n13_ n14_ n15_ n16_ n17_ n18_ n19_ n20_ n21_ n22_ n23_ n24_; clear hb hbox hg; have hnb68 := NB665_642.out; have hnc68 := NB642_665.out; have hnb69 := NB665_643.out; have hnc69 := NB643_665.out; have hnb70 := NB665_644.out; have hnc70 := NB644_665.out; have hnb71 := NB665_648.out; have hnc71 := NB648_665.out; have hnb72 := NB665_652.out; have hnc72 := NB652_665.out; have hnb73 := NB665_656.out; have hnc73 := NB656_665.out; have hnb74 := NB665_660.out; have hnc74 := NB660_665.out; have hcz75_0 : w67.cell? ⟨gb665, 0, none⟩ = some (.int .i64 0) := (kH BK665.out 0).trans rfl; have hcz75_1 : w67.cell? ⟨gb665, 1, none⟩ = some (.int .i64 0) := (kH BK665.out 1).trans rfl; have hfz75_0 := kJ BK665.out 0; have hfz75_1 := kJ BK665.out 1; have hcz76_0 : w67.cell? ⟨gb643, 0, none⟩ = some (.int .i64 a2_0) := (kH BK643.out 0).trans rfl; have hcz76_1 : w67.cell? ⟨gb643, 1, none⟩ = some (.int .i64 a2_1) := (kH BK643.out 1).trans rfl; have hfz76_0 := kJ BK643.out 0; have hfz76_1 := kJ BK643.out 1) | ((with_reducible refine kL (f := 30) rfl ?_); refine goesL_ (some 53) rfl rfl Try.func30 (by kernel_rfl) rfl #[.agg #[.int .i64 a2_0, .int .i64 a2_1]] rfl (by (try simp only [List.map_toArray, List.map_cons, List.map_nil]); first | done | rfl | (simp only [List.length_drop, List.length_take]; rfl)) ?_; (with_reducible refine (computusref15_Of.calls k a2_0 a2_1 t666 t667 t668 t669 _ A10.out).mono ?_); rintro e w77 ⟨rfl, hb⟩; refine ⟨_, rfl, ?_⟩; have n0_ := Aside0.mk (kI (g := gb642) (o := .cells #[.int .i64 a0_0, .int .i64 a0_1] 23 (0, 0)) (by (with_reducible repeat (first | refine kB ?_ _ | refine kE ?_ | refine kC ?_ _)); refine blk_far ?_ NB642_665.out _; (with_reducible repeat (first | refine kB ?_ _ | refine kE ?_ | refine kC ?_ _)); refine blk_far ?_ NB642_665.out _; (with_reducible repeat (first | refine kB ?_ _ | refine kE ?_ | refine kC ?_ _)); exact BK642.out) hb); have n1_ := Aside0.mk (kI (g := gb643) (o := .cells #[.int .i64 a2_0, .int .i64 a2_1] 33 (0, 0)) (by (with_reducible repeat (first | refine kB ?_ _ | refine kE ?_ | refine kC ?_ _)); refine blk_far ?_ NB643_665.out _; (with_reducible repeat (first | refine kB ?_ _ | refine kE ?_ | refine kC ?_ _)); refine blk_far ?_ NB643_665.out _; (with_reducible repeat (first | refine kB ?_ _ | refine kE ?_ | refine kC ?_ _)); exact BK643.out) hb); have n2_ := Aside0.mk (kI (g := gb644) (o := .cells #[.int .i64 a3_0, .int .i64 a3_1] 33 (0, 0)) (by (with_reducible repeat (first | refine kB ?_ _ | refine kE ?_ | refine kC ?_ _)); refine blk_far ?_ NB644_665.out _; (with_reducible repeat (first | refine kB ?_ _ | refine kE ?_ | refine kC ?_ _)); refine blk_far ?_ NB644_665.out _; (with_reducible repeat (first | refine kB ?_ _ | refine kE ?_ | refine kC ?_ _)); exact BK644.out) hb); have n3_ := Aside0.mk (kI (g := gb648) (o := .cells #[.int .i64 t645, .int .i64 t646] 33 (0, 0)) (by (with_reducible repeat (first | refine kB ?_ _ | refine kE ?_ | refine kC ?_ _)); refine blk_far ?_ NB648_665.out _; (with_reducible repeat (first | refine kB ?_ _ | refine kE ?_ | refine kC ?_ _)); refine blk_far ?_ NB648_665.out _; (with_reducible repeat (first | refine kB ?_ _ | refine kE ?_ | refine kC ?_ _)); exact BK648.out) hb); have n4_ := Aside0.mk (kI (g := gb652) (o := .cells #[.int .i64 t649, .int .i64 t650] 33 (0, 0)) (by (with_reducible repeat (first | refine kB ?_ _ | refine kE ?_ | refine kC ?_ _)); refine blk_far ?_ NB652_665.out _; (with_reducible repeat (first | refine kB ?_ _ | refine kE ?_ | refine kC ?_ _)); refine blk_far ?_ NB652_665.out _; (with_reducible repeat (first | refine kB ?_ _ | refine kE ?_ | refine kC ?_ _)); exact BK652.out) hb); have n5_ := Aside0.mk (kI (g := gb656) (o := .cells #[.int .i64 t653, .int .i64 t654] 33 (0, 0)) (by (with_reducible repeat (first | refine kB ?_ _ | refine kE ?_ | refine kC ?_ _)); refine blk_far ?_ NB656_665.out _; (with_reducible repeat (first | refine kB ?_ _ | refine kE ?_ | refine kC ?_ _)); refine blk_far ?_ NB656_665.out _; (with_reducible repeat (first | refine kB ?_ _ | refine kE ?_ | refine kC ?_ _)); exact BK656.out) hb); have n6_ := Aside0.mk (kI (g := gb660) (o := .cells #[.int .i64 t657, .int .i64 t658] 33 (0, 0)) (by (with_reducible repeat (first | refine kB ?_ _ | refine kE ?_ | refine kC ?_ _)); refine blk_far ?_ NB660_665.out _; (with_reducible repeat (first | refine kB ?_ _ | refine kE ?_ | refine kC ?_ _)); refine blk_far ?_ NB660_665.out _; (with_reducible repeat (first | refine kB ?_ _ | refine kE ?_ | refine kC ?_ _)); exact BK660.out) hb); have n7_ := Aside0.mk (kI (g := gb665) (o := .cells #[.int .i64 t661, .int .i64 t662] 23 (0, 0)) (by (with_reducible repeat (first | refine kB ?_ _ | refine kE ?_ | refine kC ?_ _)); refine blk_put (cs := #[.int .i64 t661, .int .i64 0]) ?_ 1 _ rfl; (with_reducible repeat (first | refine kB ?_ _ | refine kE ?_ | refine kC ?_ _)); refine blk_put (cs := #[.int .i64 0, .int .i64 0]) ?_ 0 _ rfl; (with_reducible repeat (first | refine kB ?_ _ | refine kE ?_ | refine kC ?_ _)); exact BK665.out) hb); have n8_ := Aside0.mk (kM (by repeat (first | (with_reducible first | exact HB.out | apply kG | apply kD | apply kF | refine kA ?_ GE642.out | refine kA ?_ GE643.out | refine kA ?_ GE644.out | refine kA ?_ GE648.out | refine kA ?_ GE652.out | refine kA ?_ GE656.out | refine kA ?_ GE660.out | refine kA ?_ GE665.out) | exact HB.out)) hb); clear BK642; clear BK643; clear BK644; clear BK648; clear BK652; clear BK656; clear BK660; clear BK665; clear HB; have BK642 := n0_; have BK643 := n1_; have BK644 := n2_; have BK648 := n3_; have BK652 := n4_; have BK656 := n5_; have BK660 := n6_; have BK665 := n7_; have HB := n8_; clear n0_ n1_ n2_ n3_ n4_ n5_ n6_ n7_ n8_; (try clear hb); (try clear hb2); (try clear hk); (try clear hi)) | ((with_reducible refine gate_dst (N := 20) rfl ?_); refine box_event ?hg (N := 20) ?hd (cs := #[.int .i64 0, .int .i64 0]) (t := 23) ?hr ?_; (case hd => rfl); (case hg => rfl); (case hr => first | (go_simp; done) | (go_simp; rfl)); intro gb670 hg w78 hbox hb; have n0_ := Aside0.mk (kI (g := gb642) (o := .cells #[.int .i64 a0_0, .int .i64 a0_1] 23 (0, 0)) (by (with_reducible repeat (first | refine kB ?_ _ | refine kE ?_ | refine kC ?_ _)); exact BK642.out) hb); have n1_ := Aside0.mk (kI (g := gb643) (o := .cells #[.int .i64 a2_0, .int .i64 a2_1] 33 (0, 0)) (by (with_reducible repeat (first | refine kB ?_ _ | refine kE ?_ | refine kC ?_ _)); exact BK643.out) hb); have n2_ := Aside0.mk (kI (g := gb644) (o := .cells #[.int .i64 a3_0, .int .i64 a3_1] 33 (0, 0)) (by (with_reducible repeat (first | refine kB ?_ _ | refine kE ?_ | refine kC ?_ _)); exact BK644.out) hb); have n3_ := Aside0.mk (kI (g := gb648) (o := .cells #[.int .i64 t645, .int .i64 t646] 33 (0, 0)) (by (with_reducible repeat (first | refine kB ?_ _ | refine kE ?_ | refine kC ?_ _)); exact BK648.out) hb); have n4_ := Aside0.mk (kI (g := gb652) (o := .cells #[.int .i64 t649, .int .i64 t650] 33 (0, 0)) (by (with_reducible repeat (first | refine kB ?_ _ | refine kE ?_ | refine kC ?_ _)); exact BK652.out) hb); have n5_ := Aside0.mk (kI (g := gb656) (o := .cells #[.int .i64 t653, .int .i64 t654] 33 (0, 0)) (by (with_reducible repeat (first | refine kB ?_ _ | refine kE ?_ | refine kC ?_ _)); exact BK656.out) hb); have n6_ := Aside0.mk (kI (g := gb660) (o := .cells #[.int .i64 t657, .int .i64 t658] 33 (0, 0)) (by (with_reducible repeat (first | refine kB ?_ _ | refine kE ?_ | refine kC ?_ _)); exact BK660.out) hb); have n7_ := Aside0.mk (kI (g := gb665) (o := .cells #[.int .i64 t661, .int .i64 t662] 23 (0, 0)) (by (with_reducible repeat (first | refine kB ?_ _ | refine kE ?_ | refine kC ?_ _)); exact BK665.out) hb); have n8_ := Aside0.mk (kM (by repeat (first | (with_reducible first | exact HB.out | apply kG | apply kD | apply kF | refine kA ?_ GE642.out | refine kA ?_ GE643.out | refine kA ?_ GE644.out | refine kA ?_ GE648.out | refine kA ?_ GE652.out | refine kA ?_ GE656.out | refine kA ?_ GE660.out | refine kA ?_ GE665.out) | exact HB.out)) hb); have n9_ := Aside0.mk (hbox); have n10_ := Aside0.mk ((by rw [hg]; exact (kK (by repeat (first | (with_reducible first | exact HB.out | apply kG | apply kD | apply kF | refine kA ?_ GE642.out | refine kA ?_ GE643.out | refine kA ?_ GE644.out | refine kA ?_ GE648.out | refine kA ?_ GE652.out | refine kA ?_ GE656.out | refine kA ?_ GE660.out | refine kA ?_ GE665.out) | exact HB.out))) : w.heap.size ≤ gb670)); have n11_ := Aside0.mk ((by rw [hg]; exact (kK (by repeat (first | (with_reducible first | exact HB.out | apply kG | apply kD | apply kF | refine kA ?_ GE642.out | refine kA ?_ GE643.out | refine kA ?_ GE644.out | refine kA ?_ GE648.out | refine kA ?_ GE652.out | refine kA ?_ GE656.out | refine kA ?_ GE660.out | refine kA ?_ GE665.out) | exact HB.out))) : w.heap.size ≤ gb670)); have n12_ := Aside0.mk ((by rw [hg]; exact Nat.ne_of_lt (kP (g := gb642) (o := .cells #[.int .i64 a0_0, .int .i64 a0_1] 23 (0, 0)) (by (with_reducible repeat (first | refine kB ?_ _ | refine kE ?_ | refine kC ?_ _)); exact BK642.out)) : gb642 ≠ gb670)); have n13_ := Aside0.mk ((by rw [hg]; exact Nat.ne_of_gt (kP (g := gb642) (o := .cells #[.int .i64 a0_0, .int .i64 a0_1] 23 (0, 0)) (by (with_reducible repeat (first | refine kB ?_ _ | refine kE ?_ | refine kC ?_ _)); exact BK642.out)) : gb670 ≠ gb642)); have n14_ := Aside0.mk ((by rw [hg]; exact Nat.ne_of_lt (kP (g := gb643) (o := .cells #[.int .i64 a2_0, .int .i64 a2_1] 33 (0, 0)) (by (with_reducible repeat (first | refine kB ?_ _ | refine kE ?_ | refine kC ?_ _)); exact BK643.out)) : gb643 ≠ gb670)); have n15_ := Aside0.mk ((by rw [hg]; exact Nat.ne_of_gt (kP (g := gb643) (o := .cells #[.int .i64 a2_0, .int .i64 a2_1] 33 (0, 0)) (by (with_reducible repeat (first | refine kB ?_ _ | refine kE ?_ | refine kC ?_ _)); exact BK643.out)) : gb670 ≠ gb643)); have n16_ := Aside0.mk ((by rw [hg]; exact Nat.ne_of_lt (kP (g := gb644) (o := .cells #[.int .i64 a3_0, .int .i64 a3_1] 33 (0, 0)) (by (with_reducible repeat (first | refine kB ?_ _ | refine kE ?_ | refine kC ?_ _)); exact BK644.out)) : gb644 ≠ gb670)); have n17_ := Aside0.mk ((by rw [hg]; exact Nat.ne_of_gt (kP (g := gb644) (o := .cells #[.int .i64 a3_0, .int .i64 a3_1] 33 (0, 0)) (by (with_reducible repeat (first | refine kB ?_ _ | refine kE ?_ | refine kC ?_ _)); exact BK644.out)) : gb670 ≠ gb644)); have n18_ := Aside0.mk ((by rw [hg]; exact Nat.ne_of_lt (kP (g := gb648) (o := .cells #[.int .i64 t645, .int .i64 t646] 33 (0, 0)) (by (with_reducible repeat (first | refine kB ?_ _ | refine kE ?_ | refine kC ?_ _)); exact BK648.out)) : gb648 ≠ gb670)); have n19_ := Aside0.mk ((by rw [hg]; exact Nat.ne_of_gt (kP (g := gb648) (o := .cells #[.int .i64 t645, .int .i64 t646] 33 (0, 0)) (by (with_reducible repeat (first | refine kB ?_ _ | refine kE ?_ | refine kC ?_ _)); exact BK648.out)) : gb670 ≠ gb648)); have n20_ := Aside0.mk ((by rw [hg]; exact Nat.ne_of_lt (kP (g := gb652) (o := .cells #[.int .i64 t649, .int .i64 t650] 33 (0, 0)) (by (with_reducible repeat (first | refine kB ?_ _ | refine kE ?_ | refine kC ?_ _)); exact BK652.out)) : gb652 ≠ gb670)); have n21_ := Aside0.mk ((by rw [hg]; exact Nat.ne_of_gt (kP (g := gb652) (o := .cells #[.int .i64 t649, .int .i64 t650] 33 (0, 0)) (by (with_reducible repeat (first | refine kB ?_ _ | refine kE ?_ | refine kC ?_ _)); exact BK652.out)) : gb670 ≠ gb652)); have n22_ := Aside0.mk ((by rw [hg]; exact Nat.ne_of_lt (kP (g := gb656) (o := .cells #[.int .i64 t653, .int .i64 t654] 33 (0, 0)) (by (with_reducible repeat (first | refine kB ?_ _ | refine kE ?_ | refine kC ?_ _)); exact BK656.out)) : gb656 ≠ gb670)); have n23_ := Aside0.mk ((by rw [hg]; exact Nat.ne_of_gt (kP (g := gb656) (o := .cells #[.int .i64 t653, .int .i64 t654] 33 (0, 0)) (by (with_reducible repeat (first | refine kB ?_ _ | refine kE ?_ | refine kC ?_ _)); exact BK656.out)) : gb670 ≠ gb656)); have n24_ := Aside0.mk ((by rw [hg]; exact Nat.ne_of_lt (kP (g := gb660) (o := .cells #[.int .i64 t657, .int .i64 t658] 33 (0, 0)) (by (with_reducible repeat (first | refine kB ?_ _ | refine kE ?_ | refine kC ?_ _)); exact BK660.out)) : gb660 ≠ gb670)); have n25_ := Aside0.mk ((by rw [hg]; exact Nat.ne_of_gt (kP (g := gb660) (o := .cells #[.int .i64 t657, .int .i64 t658] 33 (0, 0)) (by (with_reducible repeat (first | refine kB ?_ _ | refine kE ?_ | refine kC ?_ _)); exact BK660.out)) : gb670 ≠ gb660)); have n26_ := Aside0.mk ((by rw [hg]; exact Nat.ne_of_lt (kP (g := gb665) (o := .cells #[.int .i64 t661, .int .i64 t662] 23 (0, 0)) (by (with_reducible repeat (first | refine kB ?_ _ | refine kE ?_ | refine kC ?_ _)); exact BK665.out)) : gb665 ≠ gb670)); have n27_ := Aside0.mk ((by rw [hg]; exact Nat.ne_of_gt (kP (g := gb665) (o := .cells #[.int .i64 t661, .int .i64 t662] 23 (0, 0)) (by (with_reducible repeat (first | refine kB ?_ _ | refine kE ?_ | refine kC ?_ _)); exact BK665.out)) : gb670 ≠ gb665)); clear BK642; clear BK643; clear BK644; clear BK648; clear BK652; clear BK656; clear BK660; clear BK665; clear HB; have BK642 := n0_; have BK643 := n1_; have BK644 := n2_; have BK648 := n3_; have BK652 := n4_; have BK656 := n5_; have BK660 := n6_; have BK665 := n7_; have HB := n8_; have BK670 := n9_; have GW670 := n10_; have GE670 := n11_; have NB642_670 := n12_; have NB670_642 := n13_; have NB643_670 := n14_; have NB670_643 := n15_; have NB644_670 := n16_; have NB670_644 := n17_; have NB648_670 := n18_; have NB670_648 := n19_; have NB652_670 := n20_; have NB670_652 := n21_; have NB656_670 := n22_; have NB670_656 := n23_; have NB660_670 := n24_; have NB670_660 := n25_; have NB665_670 := n26_; have NB670_665 := n27_; clear n0_ n1_ n2_ n3_ n4_ n5_ n6_ n7_ n8_ n9_ n10_ n11_ n12_ n13_ n14_ n15_ n16_ n17_ n18_ n19_ n20_ n21_ n22_ n23_ n24_ n25_ n26_ n27_; clear hb hbox hg; have hnb79 := NB670_642.out; have hnc79 := NB642_670.out; have hnb80 := NB670_643.out; have hnc80 := NB643_670.out; have hnb81 := NB670_644.out; have hnc81 := NB644_670.out; have hnb82 := NB670_648.out; have hnc82 := NB648_670.out; have hnb83 := NB670_652.out; have hnc83 := NB652_670.out; have hnb84 := NB670_656.out; have hnc84 := NB656_670.out; have hnb85 := NB670_660.out; have hnc85 := NB660_670.out; have hnb86 := NB670_665.out; have hnc86 := NB665_670.out; have hcz87_0 : w78.cell? ⟨gb670, 0, none⟩ = some (.int .i64 0) := (kH BK670.out 0).trans rfl; have hcz87_1 : w78.cell? ⟨gb670, 1, none⟩ = some (.int .i64 0) := (kH BK670.out 1).trans rfl; have hfz87_0 := kJ BK670.out 0; have hfz87_1 := kJ BK670.out 1))
                    have n0_ : Aside0 (((w78.setCell ⟨gb670, 0, none⟩ (.int .i64 t666)).setCell ⟨gb670, 1, none⟩ (.int .i64 t667)).heap[gb642]? = some (.cells #[.int .i64 a0_0, .int .i64 a0_1] 23 (0, 0))) := ⟨by (with_reducible repeat (first | refine kB ?_ _ | refine kE ?_ | refine kC ?_ _)); refine blk_far ?_ NB642_670.out _; (with_reducible repeat (first | refine kB ?_ _ | refine kE ?_ | refine kC ?_ _)); refine blk_far ?_ NB642_670.out _; (with_reducible repeat (first | refine kB ?_ _ | refine kE ?_ | refine kC ?_ _)); exact BK642.out⟩
                    have n1_ : Aside0 (((w78.setCell ⟨gb670, 0, none⟩ (.int .i64 t666)).setCell ⟨gb670, 1, none⟩ (.int .i64 t667)).heap[gb643]? = some (.cells #[.int .i64 a2_0, .int .i64 a2_1] 33 (0, 0))) := ⟨by (with_reducible repeat (first | refine kB ?_ _ | refine kE ?_ | refine kC ?_ _)); refine blk_far ?_ NB643_670.out _; (with_reducible repeat (first | refine kB ?_ _ | refine kE ?_ | refine kC ?_ _)); refine blk_far ?_ NB643_670.out _; (with_reducible repeat (first | refine kB ?_ _ | refine kE ?_ | refine kC ?_ _)); exact BK643.out⟩
                    have n2_ : Aside0 (((w78.setCell ⟨gb670, 0, none⟩ (.int .i64 t666)).setCell ⟨gb670, 1, none⟩ (.int .i64 t667)).heap[gb644]? = some (.cells #[.int .i64 a3_0, .int .i64 a3_1] 33 (0, 0))) := ⟨by (with_reducible repeat (first | refine kB ?_ _ | refine kE ?_ | refine kC ?_ _)); refine blk_far ?_ NB644_670.out _; (with_reducible repeat (first | refine kB ?_ _ | refine kE ?_ | refine kC ?_ _)); refine blk_far ?_ NB644_670.out _; (with_reducible repeat (first | refine kB ?_ _ | refine kE ?_ | refine kC ?_ _)); exact BK644.out⟩
                    have n3_ : Aside0 (((w78.setCell ⟨gb670, 0, none⟩ (.int .i64 t666)).setCell ⟨gb670, 1, none⟩ (.int .i64 t667)).heap[gb648]? = some (.cells #[.int .i64 t645, .int .i64 t646] 33 (0, 0))) := ⟨by (with_reducible repeat (first | refine kB ?_ _ | refine kE ?_ | refine kC ?_ _)); refine blk_far ?_ NB648_670.out _; (with_reducible repeat (first | refine kB ?_ _ | refine kE ?_ | refine kC ?_ _)); refine blk_far ?_ NB648_670.out _; (with_reducible repeat (first | refine kB ?_ _ | refine kE ?_ | refine kC ?_ _)); exact BK648.out⟩
                    have n4_ : Aside0 (((w78.setCell ⟨gb670, 0, none⟩ (.int .i64 t666)).setCell ⟨gb670, 1, none⟩ (.int .i64 t667)).heap[gb652]? = some (.cells #[.int .i64 t649, .int .i64 t650] 33 (0, 0))) := ⟨by (with_reducible repeat (first | refine kB ?_ _ | refine kE ?_ | refine kC ?_ _)); refine blk_far ?_ NB652_670.out _; (with_reducible repeat (first | refine kB ?_ _ | refine kE ?_ | refine kC ?_ _)); refine blk_far ?_ NB652_670.out _; (with_reducible repeat (first | refine kB ?_ _ | refine kE ?_ | refine kC ?_ _)); exact BK652.out⟩
                    have n5_ : Aside0 (((w78.setCell ⟨gb670, 0, none⟩ (.int .i64 t666)).setCell ⟨gb670, 1, none⟩ (.int .i64 t667)).heap[gb656]? = some (.cells #[.int .i64 t653, .int .i64 t654] 33 (0, 0))) := ⟨by (with_reducible repeat (first | refine kB ?_ _ | refine kE ?_ | refine kC ?_ _)); refine blk_far ?_ NB656_670.out _; (with_reducible repeat (first | refine kB ?_ _ | refine kE ?_ | refine kC ?_ _)); refine blk_far ?_ NB656_670.out _; (with_reducible repeat (first | refine kB ?_ _ | refine kE ?_ | refine kC ?_ _)); exact BK656.out⟩
                    have n6_ : Aside0 (((w78.setCell ⟨gb670, 0, none⟩ (.int .i64 t666)).setCell ⟨gb670, 1, none⟩ (.int .i64 t667)).heap[gb660]? = some (.cells #[.int .i64 t657, .int .i64 t658] 33 (0, 0))) := ⟨by (with_reducible repeat (first | refine kB ?_ _ | refine kE ?_ | refine kC ?_ _)); refine blk_far ?_ NB660_670.out _; (with_reducible repeat (first | refine kB ?_ _ | refine kE ?_ | refine kC ?_ _)); refine blk_far ?_ NB660_670.out _; (with_reducible repeat (first | refine kB ?_ _ | refine kE ?_ | refine kC ?_ _)); exact BK660.out⟩
                    have n7_ : Aside0 (((w78.setCell ⟨gb670, 0, none⟩ (.int .i64 t666)).setCell ⟨gb670, 1, none⟩ (.int .i64 t667)).heap[gb665]? = some (.cells #[.int .i64 t661, .int .i64 t662] 23 (0, 0))) := ⟨by (with_reducible repeat (first | refine kB ?_ _ | refine kE ?_ | refine kC ?_ _)); refine blk_far ?_ NB665_670.out _; (with_reducible repeat (first | refine kB ?_ _ | refine kE ?_ | refine kC ?_ _)); refine blk_far ?_ NB665_670.out _; (with_reducible repeat (first | refine kB ?_ _ | refine kE ?_ | refine kC ?_ _)); exact BK665.out⟩
                    have n8_ : Aside0 (((w78.setCell ⟨gb670, 0, none⟩ (.int .i64 t666)).setCell ⟨gb670, 1, none⟩ (.int .i64 t667)).heap[gb670]? = some (.cells #[.int .i64 t666, .int .i64 t667] 23 (0, 0))) := ⟨by (with_reducible repeat (first | refine kB ?_ _ | refine kE ?_ | refine kC ?_ _)); refine blk_put (cs := #[.int .i64 t666, .int .i64 0]) ?_ 1 _ rfl; (with_reducible repeat (first | refine kB ?_ _ | refine kE ?_ | refine kC ?_ _)); refine blk_put (cs := #[.int .i64 0, .int .i64 0]) ?_ 0 _ rfl; (with_reducible repeat (first | refine kB ?_ _ | refine kE ?_ | refine kC ?_ _)); exact BK670.out⟩
                    have n9_ : Aside0 (Below w.heap.size w ((w78.setCell ⟨gb670, 0, none⟩ (.int .i64 t666)).setCell ⟨gb670, 1, none⟩ (.int .i64 t667))) := ⟨by repeat (first | (with_reducible first | exact HB.out | apply kG | apply kD | apply kF | refine kA ?_ GE642.out | refine kA ?_ GE643.out | refine kA ?_ GE644.out | refine kA ?_ GE648.out | refine kA ?_ GE652.out | refine kA ?_ GE656.out | refine kA ?_ GE660.out | refine kA ?_ GE665.out | refine kA ?_ GE670.out) | exact HB.out)⟩
                    (try clear BK642)
                    (try clear BK643)
                    (try clear BK644)
                    (try clear BK648)
                    (try clear BK652)
                    (try clear BK656)
                    (try clear BK660)
                    (try clear BK665)
                    (try clear BK670)
                    (try clear HB)
                    (try simp only [setCell_drewN_])
                    generalize ((w78.setCell ⟨gb670, 0, none⟩ (.int .i64 t666)).setCell ⟨gb670, 1, none⟩ (.int .i64 t667)) = w88 at n0_ n1_ n2_ n3_ n4_ n5_ n6_ n7_ n8_ n9_ ⊢
                    have BK642 := n0_
                    have BK643 := n1_
                    have BK644 := n2_
                    have BK648 := n3_
                    have BK652 := n4_
                    have BK656 := n5_
                    have BK660 := n6_
                    have BK665 := n7_
                    have BK670 := n8_
                    have HB := n9_
                    clear n0_ n1_ n2_ n3_ n4_ n5_ n6_ n7_ n8_ n9_
                    have n0_ := Aside0.mk (kE BK642.out)
                    have n1_ := Aside0.mk (kE BK643.out)
                    have n2_ := Aside0.mk (kE BK644.out)
                    have n3_ := Aside0.mk (kE BK648.out)
                    have n4_ := Aside0.mk (kE BK652.out)
                    have n5_ := Aside0.mk (kE BK656.out)
                    have n6_ := Aside0.mk (kE BK660.out)
                    have n7_ := Aside0.mk (kE BK665.out)
                    have n8_ := Aside0.mk (kE BK670.out)
                    have n9_ := Aside0.mk (kF HB.out)
                    clear BK642
                    clear BK643
                    clear BK644
                    clear BK648
                    clear BK652
                    clear BK656
                    clear BK660
                    clear BK665
                    clear BK670
                    clear HB
                    have BK642 := n0_
                    have BK643 := n1_
                    have BK644 := n2_
                    have BK648 := n3_
                    have BK652 := n4_
                    have BK656 := n5_
                    have BK660 := n6_
                    have BK665 := n7_
                    have BK670 := n8_
                    have HB := n9_
                    clear n0_ n1_ n2_ n3_ n4_ n5_ n6_ n7_ n8_ n9_
                    refine start_ (n := 53) (S := fun w' => w'.cell? ⟨gb648, 0, none⟩ = some (.int .i64 t645) ∧ w'.cell? ⟨gb648, 1, none⟩ = some (.int .i64 t646) ∧ w'.cell? ⟨gb652, 0, none⟩ = some (.int .i64 t649) ∧ w'.cell? ⟨gb652, 1, none⟩ = some (.int .i64 t650) ∧ w'.cell? ⟨gb656, 0, none⟩ = some (.int .i64 t653) ∧ w'.cell? ⟨gb656, 1, none⟩ = some (.int .i64 t654) ∧ w'.cell? ⟨gb660, 0, none⟩ = some (.int .i64 t657) ∧ w'.cell? ⟨gb660, 1, none⟩ = some (.int .i64 t658) ∧ w'.cell? ⟨gb665, 0, none⟩ = some (.int .i64 t661) ∧ w'.cell? ⟨gb665, 1, none⟩ = some (.int .i64 t662) ∧ w'.cell? ⟨gb670, 0, none⟩ = some (.int .i64 t666) ∧ w'.cell? ⟨gb670, 1, none⟩ = some (.int .i64 t667) ∧ w'.cell? ⟨gb643, 0, none⟩ = some (.int .i64 a2_0) ∧ w'.cell? ⟨gb643, 1, none⟩ = some (.int .i64 a2_1) ∧ w'.cell? ⟨gb644, 0, none⟩ = some (.int .i64 a3_0) ∧ w'.cell? ⟨gb644, 1, none⟩ = some (.int .i64 a3_1)) (ds := []) #[false, false, false, false, false, false, false, false, false, false, false, false, false, false, false, false, false, false, false, false, false, false, false, false, false, false, false, false, false, false, false, false, false, false, false, false, false, false, false, false, false, false, false, false, false, false, false, false, false, false, false, false, false] (by kernel_rfl) rfl rfl ⟨(kH BK648.out 0).trans rfl, (kH BK648.out 1).trans rfl, (kH BK652.out 0).trans rfl, (kH BK652.out 1).trans rfl, (kH BK656.out 0).trans rfl, (kH BK656.out 1).trans rfl, (kH BK660.out 0).trans rfl, (kH BK660.out 1).trans rfl, (kH BK665.out 0).trans rfl, (kH BK665.out 1).trans rfl, (kH BK670.out 0).trans rfl, (kH BK670.out 1).trans rfl, (kH BK643.out 0).trans rfl, (kH BK643.out 1).trans rfl, (kH BK644.out 0).trans rfl, (kH BK644.out 1).trans rfl⟩ (fun hHeld => ?_); refine with_tabW computuslaw15_DayStamps.tab7 computuslaw15_DayStamps.bits7 (fun HT_ HW_ => ?_)
                    generalize w88.drew = w89 at BK642 BK643 BK644 BK648 BK652 BK656 BK660 BK665 BK670 HB hHeld ⊢
                    refine take_ (i := 0) (N := some 57) (v := ?_) (a' := ?_) #[true, false, false, false, false, false, false, false, false, false, false, false, false, false, false, false, false, false, false, false, false, false, false, false, false, false, false, false, false, false, false, false, false, false, false, false, false, false, false, false, false, false, false, false, false, false, false, false, false, false, false, false, false] rfl rfl (take_ofW HT_.out HW_.out (by kernel_rfl)) (fun _ _ _ h => h) (Or.inl ⟨by rfl, ?_⟩) hHeld ?_ ?_
                    rotate_left
                    · rintro w' ⟨s0, s1, s2, s3, s4, s5, s6, s7, s8, s9, s10, s11, s12, s13, s14, s15⟩
                      go_simp
                      with_reducible rfl
                    rotate_left
                    · simp only [Act.put, List.setIfInBounds_toArray, List.set_cons_zero, List.set_cons_succ, kN, kO]
                      rfl
                    refine take_ (i := 1) (N := some 58) (v := ?_) (a' := ?_) #[true, true, false, false, false, false, false, false, false, false, false, false, false, false, false, false, false, false, false, false, false, false, false, false, false, false, false, false, false, false, false, false, false, false, false, false, false, false, false, false, false, false, false, false, false, false, false, false, false, false, false, false, false] rfl rfl (take_ofW HT_.out HW_.out (by kernel_rfl)) (fun _ _ _ h => h) (Or.inl ⟨by rfl, ?_⟩) hHeld ?_ ?_
                    rotate_left
                    · rintro w' ⟨s0, s1, s2, s3, s4, s5, s6, s7, s8, s9, s10, s11, s12, s13, s14, s15⟩
                      go_simp
                      with_reducible rfl
                    rotate_left
                    · simp only [Act.put, List.setIfInBounds_toArray, List.set_cons_zero, List.set_cons_succ, kN, kO]
                      rfl
                    refine pure_ (i := 2) (N := some 59) (v := ?_) (a' := ?_) #[true, true, true, false, false, false, false, false, false, false, false, false, false, false, false, false, false, false, false, false, false, false, false, false, false, false, false, false, false, false, false, false, false, false, false, false, false, false, false, false, false, false, false, false, false, false, false, false, false, false, false, false, false] rfl rfl (kQ HT_.out (by kernel_rfl)) (fun _ _ _ h => h) (Or.inl ⟨by rfl, ?_⟩) ?_ ?_
                    rotate_left
                    · intro w'
                      go_simp
                      with_reducible rfl
                    rotate_left
                    · simp only [Act.put, List.setIfInBounds_toArray, List.set_cons_zero, List.set_cons_succ, kN, kO]
                      rfl
                    refine pure_ (i := 3) (N := some 60) (v := ?_) (a' := ?_) #[true, true, true, true, false, false, false, false, false, false, false, false, false, false, false, false, false, false, false, false, false, false, false, false, false, false, false, false, false, false, false, false, false, false, false, false, false, false, false, false, false, false, false, false, false, false, false, false, false, false, false, false, false] rfl rfl (kQ HT_.out (by kernel_rfl)) (fun _ _ _ h => h) (Or.inl ⟨by rfl, ?_⟩) ?_ ?_
                    rotate_left
                    · intro w'
                      go_simp
                      with_reducible rfl
                    rotate_left
                    · simp only [Act.put, List.setIfInBounds_toArray, List.set_cons_zero, List.set_cons_succ, kN, kO]
                      rfl
                    refine pure_ (i := 4) (N := some 61) (v := ?_) (a' := ?_) #[true, true, true, true, true, false, false, false, false, false, false, false, false, false, false, false, false, false, false, false, false, false, false, false, false, false, false, false, false, false, false, false, false, false, false, false, false, false, false, false, false, false, false, false, false, false, false, false, false, false, false, false, false] rfl rfl (kQ HT_.out (by kernel_rfl)) (fun _ _ _ h => h) (Or.inl ⟨by rfl, ?_⟩) ?_ ?_
                    rotate_left
                    · intro w'
                      go_simp
                      with_reducible rfl
                    rotate_left
                    · simp only [Act.put, List.setIfInBounds_toArray, List.set_cons_zero, List.set_cons_succ, kN, kO]
                      rfl
                    refine pure_ (i := 5) (N := some 62) (v := ?_) (a' := ?_) #[true, true, true, true, true, true, false, false, false, false, false, false, false, false, false, false, false, false, false, false, false, false, false, false, false, false, false, false, false, false, false, false, false, false, false, false, false, false, false, false, false, false, false, false, false, false, false, false, false, false, false, false, false] rfl rfl (kQ HT_.out (by kernel_rfl)) (fun _ _ _ h => h) (Or.inl ⟨by rfl, ?_⟩) ?_ ?_
                    rotate_left
                    · intro w'
                      go_simp
                      with_reducible rfl
                    rotate_left
                    · simp only [Act.put, List.setIfInBounds_toArray, List.set_cons_zero, List.set_cons_succ, kN, kO]
                      rfl
                    refine pure_ (i := 6) (N := some 63) (v := ?_) (a' := ?_) #[true, true, true, true, true, true, true, false, false, false, false, false, false, false, false, false, false, false, false, false, false, false, false, false, false, false, false, false, false, false, false, false, false, false, false, false, false, false, false, false, false, false, false, false, false, false, false, false, false, false, false, false, false] rfl rfl (kQ HT_.out (by kernel_rfl)) (fun _ _ _ h => h) (Or.inl ⟨by rfl, ?_⟩) ?_ ?_
                    rotate_left
                    · intro w'
                      go_simp
                      with_reducible rfl
                    rotate_left
                    · simp only [Act.put, List.setIfInBounds_toArray, List.set_cons_zero, List.set_cons_succ, kN, kO]
                      rfl
                    refine pure_ (i := 7) (N := some 64) (v := ?_) (a' := ?_) #[true, true, true, true, true, true, true, true, false, false, false, false, false, false, false, false, false, false, false, false, false, false, false, false, false, false, false, false, false, false, false, false, false, false, false, false, false, false, false, false, false, false, false, false, false, false, false, false, false, false, false, false, false] rfl rfl (kQ HT_.out (by kernel_rfl)) (fun _ _ _ h => h) (Or.inl ⟨by rfl, ?_⟩) ?_ ?_
                    rotate_left
                    · intro w'
                      go_simp
                      with_reducible rfl
                    rotate_left
                    · simp only [Act.put, List.setIfInBounds_toArray, List.set_cons_zero, List.set_cons_succ, kN, kO]
                      rfl
                    refine pure_ (i := 8) (N := some 65) (v := ?_) (a' := ?_) #[true, true, true, true, true, true, true, true, true, false, false, false, false, false, false, false, false, false, false, false, false, false, false, false, false, false, false, false, false, false, false, false, false, false, false, false, false, false, false, false, false, false, false, false, false, false, false, false, false, false, false, false, false] rfl rfl (kQ HT_.out (by kernel_rfl)) (fun _ _ _ h => h) (Or.inl ⟨by rfl, ?_⟩) ?_ ?_
                    rotate_left
                    · intro w'
                      go_simp
                      with_reducible rfl
                    rotate_left
                    · simp only [Act.put, List.setIfInBounds_toArray, List.set_cons_zero, List.set_cons_succ, kN, kO]
                      rfl
                    refine take_ (i := 9) (N := some 66) (v := ?_) (a' := ?_) #[true, true, true, true, true, true, true, true, true, true, false, false, false, false, false, false, false, false, false, false, false, false, false, false, false, false, false, false, false, false, false, false, false, false, false, false, false, false, false, false, false, false, false, false, false, false, false, false, false, false, false, false, false] rfl rfl (take_ofW HT_.out HW_.out (by kernel_rfl)) (fun _ _ _ h => h) (Or.inl ⟨by rfl, ?_⟩) hHeld ?_ ?_
                    rotate_left
                    · rintro w' ⟨s0, s1, s2, s3, s4, s5, s6, s7, s8, s9, s10, s11, s12, s13, s14, s15⟩
                      go_simp
                      with_reducible rfl
                    rotate_left
                    · simp only [Act.put, List.setIfInBounds_toArray, List.set_cons_zero, List.set_cons_succ, kN, kO]
                      rfl
                    refine take_ (i := 10) (N := some 67) (v := ?_) (a' := ?_) #[true, true, true, true, true, true, true, true, true, true, true, false, false, false, false, false, false, false, false, false, false, false, false, false, false, false, false, false, false, false, false, false, false, false, false, false, false, false, false, false, false, false, false, false, false, false, false, false, false, false, false, false, false] rfl rfl (take_ofW HT_.out HW_.out (by kernel_rfl)) (fun _ _ _ h => h) (Or.inl ⟨by rfl, ?_⟩) hHeld ?_ ?_
                    rotate_left
                    · rintro w' ⟨s0, s1, s2, s3, s4, s5, s6, s7, s8, s9, s10, s11, s12, s13, s14, s15⟩
                      go_simp
                      with_reducible rfl
                    rotate_left
                    · simp only [Act.put, List.setIfInBounds_toArray, List.set_cons_zero, List.set_cons_succ, kN, kO]
                      rfl
                    refine pure_ (i := 11) (N := some 68) (v := ?_) (a' := ?_) #[true, true, true, true, true, true, true, true, true, true, true, true, false, false, false, false, false, false, false, false, false, false, false, false, false, false, false, false, false, false, false, false, false, false, false, false, false, false, false, false, false, false, false, false, false, false, false, false, false, false, false, false, false] rfl rfl (kQ HT_.out (by kernel_rfl)) (fun _ _ _ h => h) (Or.inl ⟨by rfl, ?_⟩) ?_ ?_
                    rotate_left
                    · intro w'
                      go_simp
                      with_reducible rfl
                    rotate_left
                    · simp only [Act.put, List.setIfInBounds_toArray, List.set_cons_zero, List.set_cons_succ, kN, kO]
                      rfl
                    refine pure_ (i := 12) (N := some 69) (v := ?_) (a' := ?_) #[true, true, true, true, true, true, true, true, true, true, true, true, true, false, false, false, false, false, false, false, false, false, false, false, false, false, false, false, false, false, false, false, false, false, false, false, false, false, false, false, false, false, false, false, false, false, false, false, false, false, false, false, false] rfl rfl (kQ HT_.out (by kernel_rfl)) (fun _ _ _ h => h) (Or.inl ⟨by rfl, ?_⟩) ?_ ?_
                    rotate_left
                    · intro w'
                      go_simp
                      with_reducible rfl
                    rotate_left
                    · simp only [Act.put, List.setIfInBounds_toArray, List.set_cons_zero, List.set_cons_succ, kN, kO]
                      rfl
                    refine pure_ (i := 13) (N := some 70) (v := ?_) (a' := ?_) #[true, true, true, true, true, true, true, true, true, true, true, true, true, true, false, false, false, false, false, false, false, false, false, false, false, false, false, false, false, false, false, false, false, false, false, false, false, false, false, false, false, false, false, false, false, false, false, false, false, false, false, false, false] rfl rfl (kQ HT_.out (by kernel_rfl)) (fun _ _ _ h => h) (Or.inl ⟨by rfl, ?_⟩) ?_ ?_
                    rotate_left
                    · intro w'
                      go_simp
                      with_reducible rfl
                    rotate_left
                    · simp only [Act.put, List.setIfInBounds_toArray, List.set_cons_zero, List.set_cons_succ, kN, kO]
                      rfl
                    refine pure_ (i := 14) (N := some 71) (v := ?_) (a' := ?_) #[true, true, true, true, true, true, true, true, true, true, true, true, true, true, true, false, false, false, false, false, false, false, false, false, false, false, false, false, false, false, false, false, false, false, false, false, false, false, false, false, false, false, false, false, false, false, false, false, false, false, false, false, false] rfl rfl (kQ HT_.out (by kernel_rfl)) (fun _ _ _ h => h) (Or.inl ⟨by rfl, ?_⟩) ?_ ?_
                    rotate_left
                    · intro w'
                      go_simp
                      with_reducible rfl
                    rotate_left
                    · simp only [Act.put, List.setIfInBounds_toArray, List.set_cons_zero, List.set_cons_succ, kN, kO]
                      rfl
                    refine pure_ (i := 15) (N := some 72) (v := ?_) (a' := ?_) #[true, true, true, true, true, true, true, true, true, true, true, true, true, true, true, true, false, false, false, false, false, false, false, false, false, false, false, false, false, false, false, false, false, false, false, false, false, false, false, false, false, false, false, false, false, false, false, false, false, false, false, false, false] rfl rfl (kQ HT_.out (by kernel_rfl)) (fun _ _ _ h => h) (Or.inl ⟨by rfl, ?_⟩) ?_ ?_
                    rotate_left
                    · intro w'
                      go_simp
                      with_reducible rfl
                    rotate_left
                    · simp only [Act.put, List.setIfInBounds_toArray, List.set_cons_zero, List.set_cons_succ, kN, kO]
                      rfl
                    refine pure_ (i := 16) (N := some 73) (v := ?_) (a' := ?_) #[true, true, true, true, true, true, true, true, true, true, true, true, true, true, true, true, true, false, false, false, false, false, false, false, false, false, false, false, false, false, false, false, false, false, false, false, false, false, false, false, false, false, false, false, false, false, false, false, false, false, false, false, false] rfl rfl (kQ HT_.out (by kernel_rfl)) (fun _ _ _ h => h) (Or.inl ⟨by rfl, ?_⟩) ?_ ?_
                    rotate_left
                    · intro w'
                      go_simp
                      with_reducible rfl
                    rotate_left
                    · simp only [Act.put, List.setIfInBounds_toArray, List.set_cons_zero, List.set_cons_succ, kN, kO]
                      rfl
                    refine pure_ (i := 17) (N := some 74) (v := ?_) (a' := ?_) #[true, true, true, true, true, true, true, true, true, true, true, true, true, true, true, true, true, true, false, false, false, false, false, false, false, false, false, false, false, false, false, false, false, false, false, false, false, false, false, false, false, false, false, false, false, false, false, false, false, false, false, false, false] rfl rfl (kQ HT_.out (by kernel_rfl)) (fun _ _ _ h => h) (Or.inl ⟨by rfl, ?_⟩) ?_ ?_
                    rotate_left
                    · intro w'
                      go_simp
                      with_reducible rfl
                    rotate_left
                    · simp only [Act.put, List.setIfInBounds_toArray, List.set_cons_zero, List.set_cons_succ, kN, kO]
                      rfl
                    refine pure_ (i := 18) (N := some 75) (v := ?_) (a' := ?_) #[true, true, true, true, true, true, true, true, true, true, true, true, true, true, true, true, true, true, true, false, false, false, false, false, false, false, false, false, false, false, false, false, false, false, false, false, false, false, false, false, false, false, false, false, false, false, false, false, false, false, false, false, false] rfl rfl (kQ HT_.out (by kernel_rfl)) (fun _ _ _ h => h) (Or.inl ⟨by rfl, ?_⟩) ?_ ?_
                    rotate_left
                    · intro w'
                      go_simp
                      with_reducible rfl
                    rotate_left
                    · simp only [Act.put, List.setIfInBounds_toArray, List.set_cons_zero, List.set_cons_succ, kN, kO]
                      rfl
                    refine take_ (i := 19) (N := some 76) (v := ?_) (a' := ?_) #[true, true, true, true, true, true, true, true, true, true, true, true, true, true, true, true, true, true, true, true, false, false, false, false, false, false, false, false, false, false, false, false, false, false, false, false, false, false, false, false, false, false, false, false, false, false, false, false, false, false, false, false, false] rfl rfl (take_ofW HT_.out HW_.out (by kernel_rfl)) (fun _ _ _ h => h) (Or.inl ⟨by rfl, ?_⟩) hHeld ?_ ?_
                    rotate_left
                    · rintro w' ⟨s0, s1, s2, s3, s4, s5, s6, s7, s8, s9, s10, s11, s12, s13, s14, s15⟩
                      go_simp
                      with_reducible rfl
                    rotate_left
                    · simp only [Act.put, List.setIfInBounds_toArray, List.set_cons_zero, List.set_cons_succ, kN, kO]
                      rfl
                    refine take_ (i := 20) (N := some 77) (v := ?_) (a' := ?_) #[true, true, true, true, true, true, true, true, true, true, true, true, true, true, true, true, true, true, true, true, true, false, false, false, false, false, false, false, false, false, false, false, false, false, false, false, false, false, false, false, false, false, false, false, false, false, false, false, false, false, false, false, false] rfl rfl (take_ofW HT_.out HW_.out (by kernel_rfl)) (fun _ _ _ h => h) (Or.inl ⟨by rfl, ?_⟩) hHeld ?_ ?_
                    rotate_left
                    · rintro w' ⟨s0, s1, s2, s3, s4, s5, s6, s7, s8, s9, s10, s11, s12, s13, s14, s15⟩
                      go_simp
                      with_reducible rfl
                    rotate_left
                    · simp only [Act.put, List.setIfInBounds_toArray, List.set_cons_zero, List.set_cons_succ, kN, kO]
                      rfl
                    refine pure_ (i := 21) (N := some 78) (v := ?_) (a' := ?_) #[true, true, true, true, true, true, true, true, true, true, true, true, true, true, true, true, true, true, true, true, true, true, false, false, false, false, false, false, false, false, false, false, false, false, false, false, false, false, false, false, false, false, false, false, false, false, false, false, false, false, false, false, false] rfl rfl (kQ HT_.out (by kernel_rfl)) (fun _ _ _ h => h) (Or.inl ⟨by rfl, ?_⟩) ?_ ?_
                    rotate_left
                    · intro w'
                      go_simp
                      with_reducible rfl
                    rotate_left
                    · simp only [Act.put, List.setIfInBounds_toArray, List.set_cons_zero, List.set_cons_succ, kN, kO]
                      rfl
                    refine pure_ (i := 22) (N := some 79) (v := ?_) (a' := ?_) #[true, true, true, true, true, true, true, true, true, true, true, true, true, true, true, true, true, true, true, true, true, true, true, false, false, false, false, false, false, false, false, false, false, false, false, false, false, false, false, false, false, false, false, false, false, false, false, false, false, false, false, false, false] rfl rfl (kQ HT_.out (by kernel_rfl)) (fun _ _ _ h => h) (Or.inl ⟨by rfl, ?_⟩) ?_ ?_
                    rotate_left
                    · intro w'
                      go_simp
                      with_reducible rfl
                    rotate_left
                    · simp only [Act.put, List.setIfInBounds_toArray, List.set_cons_zero, List.set_cons_succ, kN, kO]
                      rfl
                    refine pure_ (i := 23) (N := some 80) (v := ?_) (a' := ?_) #[true, true, true, true, true, true, true, true, true, true, true, true, true, true, true, true, true, true, true, true, true, true, true, true, false, false, false, false, false, false, false, false, false, false, false, false, false, false, false, false, false, false, false, false, false, false, false, false, false, false, false, false, false] rfl rfl (kQ HT_.out (by kernel_rfl)) (fun _ _ _ h => h) (Or.inl ⟨by rfl, ?_⟩) ?_ ?_
                    rotate_left
                    · intro w'
                      go_simp
                      with_reducible rfl
                    rotate_left
                    · simp only [Act.put, List.setIfInBounds_toArray, List.set_cons_zero, List.set_cons_succ, kN, kO]
                      rfl
                    refine pure_ (i := 24) (N := some 81) (v := ?_) (a' := ?_) #[true, true, true, true, true, true, true, true, true, true, true, true, true, true, true, true, true, true, true, true, true, true, true, true, true, false, false, false, false, false, false, false, false, false, false, false, false, false, false, false, false, false, false, false, false, false, false, false, false, false, false, false, false] rfl rfl (kQ HT_.out (by kernel_rfl)) (fun _ _ _ h => h) (Or.inl ⟨by rfl, ?_⟩) ?_ ?_
                    rotate_left
                    · intro w'
                      go_simp
                      with_reducible rfl
                    rotate_left
                    · simp only [Act.put, List.setIfInBounds_toArray, List.set_cons_zero, List.set_cons_succ, kN, kO]
                      rfl
                    refine pure_ (i := 25) (N := some 82) (v := ?_) (a' := ?_) #[true, true, true, true, true, true, true, true, true, true, true, true, true, true, true, true, true, true, true, true, true, true, true, true, true, true, false, false, false, false, false, false, false, false, false, false, false, false, false, false, false, false, false, false, false, false, false, false, false, false, false, false, false] rfl rfl (kQ HT_.out (by kernel_rfl)) (fun _ _ _ h => h) (Or.inl ⟨by rfl, ?_⟩) ?_ ?_
                    rotate_left
                    · intro w'
                      go_simp
                      with_reducible rfl
                    rotate_left
                    · simp only [Act.put, List.setIfInBounds_toArray, List.set_cons_zero, List.set_cons_succ, kN, kO]
                      rfl
                    refine pure_ (i := 26) (N := some 83) (v := ?_) (a' := ?_) #[true, true, true, true, true, true, true, true, true, true, true, true, true, true, true, true, true, true, true, true, true, true, true, true, true, true, true, false, false, false, false, false, false, false, false, false, false, false, false, false, false, false, false, false, false, false, false, false, false, false, false, false, false] rfl rfl (kQ HT_.out (by kernel_rfl)) (fun _ _ _ h => h) (Or.inl ⟨by rfl, ?_⟩) ?_ ?_
                    rotate_left
                    · intro w'
                      go_simp
                      with_reducible rfl
                    rotate_left
                    · simp only [Act.put, List.setIfInBounds_toArray, List.set_cons_zero, List.set_cons_succ, kN, kO]
                      rfl
                    refine pure_ (i := 27) (N := some 84) (v := ?_) (a' := ?_) #[true, true, true, true, true, true, true, true, true, true, true, true, true, true, true, true, true, true, true, true, true, true, true, true, true, true, true, true, false, false, false, false, false, false, false, false, false, false, false, false, false, false, false, false, false, false, false, false, false, false, false, false, false] rfl rfl (kQ HT_.out (by kernel_rfl)) (fun _ _ _ h => h) (Or.inl ⟨by rfl, ?_⟩) ?_ ?_
                    rotate_left
                    · intro w'
                      go_simp
                      with_reducible rfl
                    rotate_left
                    · simp only [Act.put, List.setIfInBounds_toArray, List.set_cons_zero, List.set_cons_succ, kN, kO]
                      rfl
                    refine pure_ (i := 28) (N := some 85) (v := ?_) (a' := ?_) #[true, true, true, true, true, true, true, true, true, true, true, true, true, true, true, true, true, true, true, true, true, true, true, true, true, true, true, true, true, false, false, false, false, false, false, false, false, false, false, false, false, false, false, false, false, false, false, false, false, false, false, false, false] rfl rfl (kQ HT_.out (by kernel_rfl)) (fun _ _ _ h => h) (Or.inl ⟨by rfl, ?_⟩) ?_ ?_
                    rotate_left
                    · intro w'
                      go_simp
                      with_reducible rfl
                    rotate_left
                    · simp only [Act.put, List.setIfInBounds_toArray, List.set_cons_zero, List.set_cons_succ, kN, kO]
                      rfl
                    refine pure_ (i := 29) (N := some 86) (v := ?_) (a' := ?_) #[true, true, true, true, true, true, true, true, true, true, true, true, true, true, true, true, true, true, true, true, true, true, true, true, true, true, true, true, true, true, false, false, false, false, false, false, false, false, false, false, false, false, false, false, false, false, false, false, false, false, false, false, false] rfl rfl (kQ HT_.out (by kernel_rfl)) (fun _ _ _ h => h) (Or.inl ⟨by rfl, ?_⟩) ?_ ?_
                    rotate_left
                    · intro w'
                      go_simp
                      with_reducible rfl
                    rotate_left
                    · simp only [Act.put, List.setIfInBounds_toArray, List.set_cons_zero, List.set_cons_succ, kN, kO]
                      rfl
                    refine pure_ (i := 30) (N := some 87) (v := ?_) (a' := ?_) #[true, true, true, true, true, true, true, true, true, true, true, true, true, true, true, true, true, true, true, true, true, true, true, true, true, true, true, true, true, true, true, false, false, false, false, false, false, false, false, false, false, false, false, false, false, false, false, false, false, false, false, false, false] rfl rfl (kQ HT_.out (by kernel_rfl)) (fun _ _ _ h => h) (Or.inl ⟨by rfl, ?_⟩) ?_ ?_
                    rotate_left
                    · intro w'
                      go_simp
                      with_reducible rfl
                    rotate_left
                    · simp only [Act.put, List.setIfInBounds_toArray, List.set_cons_zero, List.set_cons_succ, kN, kO]
                      rfl
                    refine pure_ (i := 31) (N := some 88) (v := ?_) (a' := ?_) #[true, true, true, true, true, true, true, true, true, true, true, true, true, true, true, true, true, true, true, true, true, true, true, true, true, true, true, true, true, true, true, true, false, false, false, false, false, false, false, false, false, false, false, false, false, false, false, false, false, false, false, false, false] rfl rfl (kQ HT_.out (by kernel_rfl)) (fun _ _ _ h => h) (Or.inl ⟨by rfl, ?_⟩) ?_ ?_
                    rotate_left
                    · intro w'
                      go_simp
                      with_reducible rfl
                    rotate_left
                    · simp only [Act.put, List.setIfInBounds_toArray, List.set_cons_zero, List.set_cons_succ, kN, kO]
                      rfl
                    refine pure_ (i := 32) (N := some 89) (v := ?_) (a' := ?_) #[true, true, true, true, true, true, true, true, true, true, true, true, true, true, true, true, true, true, true, true, true, true, true, true, true, true, true, true, true, true, true, true, true, false, false, false, false, false, false, false, false, false, false, false, false, false, false, false, false, false, false, false, false] rfl rfl (kQ HT_.out (by kernel_rfl)) (fun _ _ _ h => h) (Or.inl ⟨by rfl, ?_⟩) ?_ ?_
                    rotate_left
                    · intro w'
                      go_simp
                      with_reducible rfl
                    rotate_left
                    · simp only [Act.put, List.setIfInBounds_toArray, List.set_cons_zero, List.set_cons_succ, kN, kO]
                      rfl
                    refine pure_ (i := 33) (N := some 90) (v := ?_) (a' := ?_) #[true, true, true, true, true, true, true, true, true, true, true, true, true, true, true, true, true, true, true, true, true, true, true, true, true, true, true, true, true, true, true, true, true, true, false, false, false, false, false, false, false, false, false, false, false, false, false, false, false, false, false, false, false] rfl rfl (kQ HT_.out (by kernel_rfl)) (fun _ _ _ h => h) (Or.inl ⟨by rfl, ?_⟩) ?_ ?_
                    rotate_left
                    · intro w'
                      go_simp
                      with_reducible rfl
                    rotate_left
                    · simp only [Act.put, List.setIfInBounds_toArray, List.set_cons_zero, List.set_cons_succ, kN, kO]
                      rfl
                    refine take_ (i := 34) (N := some 91) (v := ?_) (a' := ?_) #[true, true, true, true, true, true, true, true, true, true, true, true, true, true, true, true, true, true, true, true, true, true, true, true, true, true, true, true, true, true, true, true, true, true, true, false, false, false, false, false, false, false, false, false, false, false, false, false, false, false, false, false, false] rfl rfl (take_ofW HT_.out HW_.out (by kernel_rfl)) (fun _ _ _ h => h) (Or.inl ⟨by rfl, ?_⟩) hHeld ?_ ?_
                    rotate_left
                    · rintro w' ⟨s0, s1, s2, s3, s4, s5, s6, s7, s8, s9, s10, s11, s12, s13, s14, s15⟩
                      go_simp
                      with_reducible rfl
                    rotate_left
                    · simp only [Act.put, List.setIfInBounds_toArray, List.set_cons_zero, List.set_cons_succ, kN, kO]
                      rfl
                    refine take_ (i := 36) (N := some 93) (v := ?_) (a' := ?_) #[true, true, true, true, true, true, true, true, true, true, true, true, true, true, true, true, true, true, true, true, true, true, true, true, true, true, true, true, true, true, true, true, true, true, true, false, true, false, false, false, false, false, false, false, false, false, false, false, false, false, false, false, false] rfl rfl (take_ofW HT_.out HW_.out (by kernel_rfl)) (fun _ _ _ h => h) (Or.inl ⟨by rfl, ?_⟩) hHeld ?_ ?_
                    rotate_left
                    · rintro w' ⟨s0, s1, s2, s3, s4, s5, s6, s7, s8, s9, s10, s11, s12, s13, s14, s15⟩
                      go_simp
                      with_reducible rfl
                    rotate_left
                    · simp only [Act.put, List.setIfInBounds_toArray, List.set_cons_zero, List.set_cons_succ, kN, kO]
                      rfl
                    refine one_ (i := 35) (N := some 92) #[true, true, true, true, true, true, true, true, true, true, true, true, true, true, true, true, true, true, true, true, true, true, true, true, true, true, true, true, true, true, true, true, true, true, true, true, true, false, false, false, false, false, false, false, false, false, false, false, false, false, false, false, false] rfl rfl (one_of HT_.out (by kernel_rfl)) (by decide) (fun K hK => ?_)
                    refine goes_ Try.func31 (by kernel_rfl) rfl #[.agg #[.int .i64 a2_0, .int .i64 a2_1]] (by rfl) rfl rfl (by (try simp only [List.map_toArray, List.map_cons, List.map_nil]); first | done | rfl | (simp only [List.length_drop, List.length_take]; rfl)) ?_
                    with_reducible refine (day_RightStamp.calls k a2_0 a2_1 t671 _ A18.out).mono ?_
                    rintro e w90 ⟨rfl, hb⟩
                    refine ⟨_, rfl, ?_⟩
                    have n0_ := Aside0.mk (kI (g := gb642) (o := .cells #[.int .i64 a0_0, .int .i64 a0_1] 23 (0, 0)) (by (with_reducible repeat (first | refine kB ?_ _ | refine kE ?_ | refine kC ?_ _)); exact BK642.out) hb)
                    have n1_ := Aside0.mk (kI (g := gb643) (o := .cells #[.int .i64 a2_0, .int .i64 a2_1] 33 (0, 0)) (by (with_reducible repeat (first | refine kB ?_ _ | refine kE ?_ | refine kC ?_ _)); exact BK643.out) hb)
                    have n2_ := Aside0.mk (kI (g := gb644) (o := .cells #[.int .i64 a3_0, .int .i64 a3_1] 33 (0, 0)) (by (with_reducible repeat (first | refine kB ?_ _ | refine kE ?_ | refine kC ?_ _)); exact BK644.out) hb)
                    have n3_ := Aside0.mk (kI (g := gb648) (o := .cells #[.int .i64 t645, .int .i64 t646] 33 (0, 0)) (by (with_reducible repeat (first | refine kB ?_ _ | refine kE ?_ | refine kC ?_ _)); exact BK648.out) hb)
                    have n4_ := Aside0.mk (kI (g := gb652) (o := .cells #[.int .i64 t649, .int .i64 t650] 33 (0, 0)) (by (with_reducible repeat (first | refine kB ?_ _ | refine kE ?_ | refine kC ?_ _)); exact BK652.out) hb)
                    have n5_ := Aside0.mk (kI (g := gb656) (o := .cells #[.int .i64 t653, .int .i64 t654] 33 (0, 0)) (by (with_reducible repeat (first | refine kB ?_ _ | refine kE ?_ | refine kC ?_ _)); exact BK656.out) hb)
                    have n6_ := Aside0.mk (kI (g := gb660) (o := .cells #[.int .i64 t657, .int .i64 t658] 33 (0, 0)) (by (with_reducible repeat (first | refine kB ?_ _ | refine kE ?_ | refine kC ?_ _)); exact BK660.out) hb)
                    have n7_ := Aside0.mk (kI (g := gb665) (o := .cells #[.int .i64 t661, .int .i64 t662] 23 (0, 0)) (by (with_reducible repeat (first | refine kB ?_ _ | refine kE ?_ | refine kC ?_ _)); exact BK665.out) hb)
                    have n8_ := Aside0.mk (kI (g := gb670) (o := .cells #[.int .i64 t666, .int .i64 t667] 23 (0, 0)) (by (with_reducible repeat (first | refine kB ?_ _ | refine kE ?_ | refine kC ?_ _)); exact BK670.out) hb)
                    have n9_ := Aside0.mk (kM (by repeat (first | (with_reducible first | exact HB.out | apply kG | apply kD | apply kF | refine kA ?_ GE642.out | refine kA ?_ GE643.out | refine kA ?_ GE644.out | refine kA ?_ GE648.out | refine kA ?_ GE652.out | refine kA ?_ GE656.out | refine kA ?_ GE660.out | refine kA ?_ GE665.out | refine kA ?_ GE670.out) | exact HB.out)) hb)
                    clear BK642
                    clear BK643
                    clear BK644
                    clear BK648
                    clear BK652
                    clear BK656
                    clear BK660
                    clear BK665
                    clear BK670
                    clear HB
                    have BK642 := n0_
                    have BK643 := n1_
                    have BK644 := n2_
                    have BK648 := n3_
                    have BK652 := n4_
                    have BK656 := n5_
                    have BK660 := n6_
                    have BK665 := n7_
                    have BK670 := n8_
                    have HB := n9_
                    clear n0_ n1_ n2_ n3_ n4_ n5_ n6_ n7_ n8_ n9_
                    (try clear hb)
                    (try clear hb2)
                    (try clear hk)
                    (try clear hi)
                    refine hK.out _ _ ⟨(kH BK648.out 0).trans rfl, (kH BK648.out 1).trans rfl, (kH BK652.out 0).trans rfl, (kH BK652.out 1).trans rfl, (kH BK656.out 0).trans rfl, (kH BK656.out 1).trans rfl, (kH BK660.out 0).trans rfl, (kH BK660.out 1).trans rfl, (kH BK665.out 0).trans rfl, (kH BK665.out 1).trans rfl, (kH BK670.out 0).trans rfl, (kH BK670.out 1).trans rfl, (kH BK643.out 0).trans rfl, (kH BK643.out 1).trans rfl, (kH BK644.out 0).trans rfl, (kH BK644.out 1).trans rfl⟩ (fun hHeld => ?_)
                    clear hK K
                    refine norm_ (a' := ?_) ?_ ?_
                    rotate_left
                    · show Act.put _ (some 92) _ = _
                      simp only [Act.put, List.setIfInBounds_toArray, List.set_cons_zero, List.set_cons_succ, kN, kO]
                      rfl
                    refine one_ (i := 37) (N := some 94) #[true, true, true, true, true, true, true, true, true, true, true, true, true, true, true, true, true, true, true, true, true, true, true, true, true, true, true, true, true, true, true, true, true, true, true, true, true, true, false, false, false, false, false, false, false, false, false, false, false, false, false, false, false] rfl rfl (one_of HT_.out (by kernel_rfl)) (by decide) (fun K hK => ?_)
                    refine goes_ Try.func32 (by kernel_rfl) rfl #[.agg #[.int .i64 a2_0, .int .i64 a2_1]] (by rfl) rfl rfl (by (try simp only [List.map_toArray, List.map_cons, List.map_nil]); first | done | rfl | (simp only [List.length_drop, List.length_take]; rfl)) ?_
                    with_reducible refine (computusref15_RightStamp.calls k a2_0 a2_1 t672 _ A19.out).mono ?_
                    rintro e w91 ⟨rfl, hb⟩
                    refine ⟨_, rfl, ?_⟩
                    have n0_ := Aside0.mk (kI (g := gb642) (o := .cells #[.int .i64 a0_0, .int .i64 a0_1] 23 (0, 0)) (by (with_reducible repeat (first | refine kB ?_ _ | refine kE ?_ | refine kC ?_ _)); exact BK642.out) hb)
                    have n1_ := Aside0.mk (kI (g := gb643) (o := .cells #[.int .i64 a2_0, .int .i64 a2_1] 33 (0, 0)) (by (with_reducible repeat (first | refine kB ?_ _ | refine kE ?_ | refine kC ?_ _)); exact BK643.out) hb)
                    have n2_ := Aside0.mk (kI (g := gb644) (o := .cells #[.int .i64 a3_0, .int .i64 a3_1] 33 (0, 0)) (by (with_reducible repeat (first | refine kB ?_ _ | refine kE ?_ | refine kC ?_ _)); exact BK644.out) hb)
                    have n3_ := Aside0.mk (kI (g := gb648) (o := .cells #[.int .i64 t645, .int .i64 t646] 33 (0, 0)) (by (with_reducible repeat (first | refine kB ?_ _ | refine kE ?_ | refine kC ?_ _)); exact BK648.out) hb)
                    have n4_ := Aside0.mk (kI (g := gb652) (o := .cells #[.int .i64 t649, .int .i64 t650] 33 (0, 0)) (by (with_reducible repeat (first | refine kB ?_ _ | refine kE ?_ | refine kC ?_ _)); exact BK652.out) hb)
                    have n5_ := Aside0.mk (kI (g := gb656) (o := .cells #[.int .i64 t653, .int .i64 t654] 33 (0, 0)) (by (with_reducible repeat (first | refine kB ?_ _ | refine kE ?_ | refine kC ?_ _)); exact BK656.out) hb)
                    have n6_ := Aside0.mk (kI (g := gb660) (o := .cells #[.int .i64 t657, .int .i64 t658] 33 (0, 0)) (by (with_reducible repeat (first | refine kB ?_ _ | refine kE ?_ | refine kC ?_ _)); exact BK660.out) hb)
                    have n7_ := Aside0.mk (kI (g := gb665) (o := .cells #[.int .i64 t661, .int .i64 t662] 23 (0, 0)) (by (with_reducible repeat (first | refine kB ?_ _ | refine kE ?_ | refine kC ?_ _)); exact BK665.out) hb)
                    have n8_ := Aside0.mk (kI (g := gb670) (o := .cells #[.int .i64 t666, .int .i64 t667] 23 (0, 0)) (by (with_reducible repeat (first | refine kB ?_ _ | refine kE ?_ | refine kC ?_ _)); exact BK670.out) hb)
                    have n9_ := Aside0.mk (kM (by repeat (first | (with_reducible first | exact HB.out | apply kG | apply kD | apply kF | refine kA ?_ GE642.out | refine kA ?_ GE643.out | refine kA ?_ GE644.out | refine kA ?_ GE648.out | refine kA ?_ GE652.out | refine kA ?_ GE656.out | refine kA ?_ GE660.out | refine kA ?_ GE665.out | refine kA ?_ GE670.out) | exact HB.out)) hb)
                    clear BK642
                    clear BK643
                    clear BK644
                    clear BK648
                    clear BK652
                    clear BK656
                    clear BK660
                    clear BK665
                    clear BK670
                    clear HB
                    have BK642 := n0_
                    have BK643 := n1_
                    have BK644 := n2_
                    have BK648 := n3_
                    have BK652 := n4_
                    have BK656 := n5_
                    have BK660 := n6_
                    have BK665 := n7_
                    have BK670 := n8_
                    have HB := n9_
                    clear n0_ n1_ n2_ n3_ n4_ n5_ n6_ n7_ n8_ n9_
                    (try clear hb)
                    (try clear hb2)
                    (try clear hk)
                    (try clear hi)
                    refine hK.out _ _ ⟨(kH BK648.out 0).trans rfl, (kH BK648.out 1).trans rfl, (kH BK652.out 0).trans rfl, (kH BK652.out 1).trans rfl, (kH BK656.out 0).trans rfl, (kH BK656.out 1).trans rfl, (kH BK660.out 0).trans rfl, (kH BK660.out 1).trans rfl, (kH BK665.out 0).trans rfl, (kH BK665.out 1).trans rfl, (kH BK670.out 0).trans rfl, (kH BK670.out 1).trans rfl, (kH BK643.out 0).trans rfl, (kH BK643.out 1).trans rfl, (kH BK644.out 0).trans rfl, (kH BK644.out 1).trans rfl⟩ (fun hHeld => ?_)
                    clear hK K
                    refine norm_ (a' := ?_) ?_ ?_
                    rotate_left
                    · show Act.put _ (some 94) _ = _
                      simp only [Act.put, List.setIfInBounds_toArray, List.set_cons_zero, List.set_cons_succ, kN, kO]
                      rfl
                    refine pure_ (i := 38) (N := some 95) (v := ?_) (a' := ?_) #[true, true, true, true, true, true, true, true, true, true, true, true, true, true, true, true, true, true, true, true, true, true, true, true, true, true, true, true, true, true, true, true, true, true, true, true, true, true, true, false, false, false, false, false, false, false, false, false, false, false, false, false, false] rfl rfl (kQ HT_.out (by kernel_rfl)) (fun _ _ _ h => h) (Or.inl ⟨by rfl, ?_⟩) ?_ ?_
                    rotate_left
                    · intro w'
                      go_simp
                      with_reducible rfl
                    rotate_left
                    · simp only [Act.put, List.setIfInBounds_toArray, List.set_cons_zero, List.set_cons_succ, kN, kO]
                      rfl
                    refine pure_ (i := 39) (N := some 96) (v := ?_) (a' := ?_) #[true, true, true, true, true, true, true, true, true, true, true, true, true, true, true, true, true, true, true, true, true, true, true, true, true, true, true, true, true, true, true, true, true, true, true, true, true, true, true, true, false, false, false, false, false, false, false, false, false, false, false, false, false] rfl rfl (kQ HT_.out (by kernel_rfl)) (fun _ _ _ h => h) (Or.inl ⟨by rfl, ?_⟩) ?_ ?_
                    rotate_left
                    · intro w'
                      go_simp
                      with_reducible rfl
                    rotate_left
                    · simp only [Act.put, List.setIfInBounds_toArray, List.set_cons_zero, List.set_cons_succ, kN, kO]
                      rfl
                    refine pure_ (i := 40) (N := some 97) (v := ?_) (a' := ?_) #[true, true, true, true, true, true, true, true, true, true, true, true, true, true, true, true, true, true, true, true, true, true, true, true, true, true, true, true, true, true, true, true, true, true, true, true, true, true, true, true, true, false, false, false, false, false, false, false, false, false, false, false, false] rfl rfl (kQ HT_.out (by kernel_rfl)) (fun _ _ _ h => h) (Or.inl ⟨by rfl, ?_⟩) ?_ ?_
                    rotate_left
                    · intro w'
                      go_simp
                      with_reducible rfl
                    rotate_left
                    · simp only [Act.put, List.setIfInBounds_toArray, List.set_cons_zero, List.set_cons_succ, kN, kO]
                      rfl
                    refine take_ (i := 41) (N := some 98) (v := ?_) (a' := ?_) #[true, true, true, true, true, true, true, true, true, true, true, true, true, true, true, true, true, true, true, true, true, true, true, true, true, true, true, true, true, true, true, true, true, true, true, true, true, true, true, true, true, true, false, false, false, false, false, false, false, false, false, false, false] rfl rfl (take_ofW HT_.out HW_.out (by kernel_rfl)) (fun _ _ _ h => h) (Or.inl ⟨by rfl, ?_⟩) hHeld ?_ ?_
                    rotate_left
                    · rintro w' ⟨s0, s1, s2, s3, s4, s5, s6, s7, s8, s9, s10, s11, s12, s13, s14, s15⟩
                      go_simp
                      with_reducible rfl
                    rotate_left
                    · simp only [Act.put, List.setIfInBounds_toArray, List.set_cons_zero, List.set_cons_succ, kN, kO]
                      rfl
                    refine take_ (i := 42) (N := some 99) (v := ?_) (a' := ?_) #[true, true, true, true, true, true, true, true, true, true, true, true, true, true, true, true, true, true, true, true, true, true, true, true, true, true, true, true, true, true, true, true, true, true, true, true, true, true, true, true, true, true, true, false, false, false, false, false, false, false, false, false, false] rfl rfl (take_ofW HT_.out HW_.out (by kernel_rfl)) (fun _ _ _ h => h) (Or.inl ⟨by rfl, ?_⟩) hHeld ?_ ?_
                    rotate_left
                    · rintro w' ⟨s0, s1, s2, s3, s4, s5, s6, s7, s8, s9, s10, s11, s12, s13, s14, s15⟩
                      go_simp
                      with_reducible rfl
                    rotate_left
                    · simp only [Act.put, List.setIfInBounds_toArray, List.set_cons_zero, List.set_cons_succ, kN, kO]
                      rfl
                    refine take_ (i := 44) (N := some 101) (v := ?_) (a' := ?_) #[true, true, true, true, true, true, true, true, true, true, true, true, true, true, true, true, true, true, true, true, true, true, true, true, true, true, true, true, true, true, true, true, true, true, true, true, true, true, true, true, true, true, true, false, true, false, false, false, false, false, false, false, false] rfl rfl (take_ofW HT_.out HW_.out (by kernel_rfl)) (fun _ _ _ h => h) (Or.inl ⟨by rfl, ?_⟩) hHeld ?_ ?_
                    rotate_left
                    · rintro w' ⟨s0, s1, s2, s3, s4, s5, s6, s7, s8, s9, s10, s11, s12, s13, s14, s15⟩
                      go_simp
                      with_reducible rfl
                    rotate_left
                    · simp only [Act.put, List.setIfInBounds_toArray, List.set_cons_zero, List.set_cons_succ, kN, kO]
                      rfl
                    refine take_ (i := 45) (N := some 102) (v := ?_) (a' := ?_) #[true, true, true, true, true, true, true, true, true, true, true, true, true, true, true, true, true, true, true, true, true, true, true, true, true, true, true, true, true, true, true, true, true, true, true, true, true, true, true, true, true, true, true, false, true, true, false, false, false, false, false, false, false] rfl rfl (take_ofW HT_.out HW_.out (by kernel_rfl)) (fun _ _ _ h => h) (Or.inl ⟨by rfl, ?_⟩) hHeld ?_ ?_
                    rotate_left
                    · rintro w' ⟨s0, s1, s2, s3, s4, s5, s6, s7, s8, s9, s10, s11, s12, s13, s14, s15⟩
                      go_simp
                      with_reducible rfl
                    rotate_left
                    · simp only [Act.put, List.setIfInBounds_toArray, List.set_cons_zero, List.set_cons_succ, kN, kO]
                      rfl
                    refine one_ (i := 43) (N := some 100) #[true, true, true, true, true, true, true, true, true, true, true, true, true, true, true, true, true, true, true, true, true, true, true, true, true, true, true, true, true, true, true, true, true, true, true, true, true, true, true, true, true, true, true, true, true, true, false, false, false, false, false, false, false] rfl rfl (one_of HT_.out (by kernel_rfl)) (by decide) (fun K hK => ?_)
                    refine goes_ Try.func17 (by kernel_rfl) rfl #[.agg #[.int .i64 a2_0, .int .i64 a2_1], .agg #[.int .i64 a3_0, .int .i64 a3_1]] (by rfl) rfl rfl (by (try simp only [List.map_toArray, List.map_cons, List.map_nil]); first | done | rfl | (simp only [List.length_drop, List.length_take]; rfl)) ?_
                    with_reducible refine (day_CmpStamp.calls k a2_0 a2_1 a3_0 a3_1 t673 _ A21.out).mono ?_
                    rintro e w92 ⟨rfl, hb⟩
                    refine ⟨_, rfl, ?_⟩
                    have n0_ := Aside0.mk (kI (g := gb642) (o := .cells #[.int .i64 a0_0, .int .i64 a0_1] 23 (0, 0)) (by (with_reducible repeat (first | refine kB ?_ _ | refine kE ?_ | refine kC ?_ _)); exact BK642.out) hb)
                    have n1_ := Aside0.mk (kI (g := gb643) (o := .cells #[.int .i64 a2_0, .int .i64 a2_1] 33 (0, 0)) (by (with_reducible repeat (first | refine kB ?_ _ | refine kE ?_ | refine kC ?_ _)); exact BK643.out) hb)
                    have n2_ := Aside0.mk (kI (g := gb644) (o := .cells #[.int .i64 a3_0, .int .i64 a3_1] 33 (0, 0)) (by (with_reducible repeat (first | refine kB ?_ _ | refine kE ?_ | refine kC ?_ _)); exact BK644.out) hb)
                    have n3_ := Aside0.mk (kI (g := gb648) (o := .cells #[.int .i64 t645, .int .i64 t646] 33 (0, 0)) (by (with_reducible repeat (first | refine kB ?_ _ | refine kE ?_ | refine kC ?_ _)); exact BK648.out) hb)
                    have n4_ := Aside0.mk (kI (g := gb652) (o := .cells #[.int .i64 t649, .int .i64 t650] 33 (0, 0)) (by (with_reducible repeat (first | refine kB ?_ _ | refine kE ?_ | refine kC ?_ _)); exact BK652.out) hb)
                    have n5_ := Aside0.mk (kI (g := gb656) (o := .cells #[.int .i64 t653, .int .i64 t654] 33 (0, 0)) (by (with_reducible repeat (first | refine kB ?_ _ | refine kE ?_ | refine kC ?_ _)); exact BK656.out) hb)
                    have n6_ := Aside0.mk (kI (g := gb660) (o := .cells #[.int .i64 t657, .int .i64 t658] 33 (0, 0)) (by (with_reducible repeat (first | refine kB ?_ _ | refine kE ?_ | refine kC ?_ _)); exact BK660.out) hb)
                    have n7_ := Aside0.mk (kI (g := gb665) (o := .cells #[.int .i64 t661, .int .i64 t662] 23 (0, 0)) (by (with_reducible repeat (first | refine kB ?_ _ | refine kE ?_ | refine kC ?_ _)); exact BK665.out) hb)
                    have n8_ := Aside0.mk (kI (g := gb670) (o := .cells #[.int .i64 t666, .int .i64 t667] 23 (0, 0)) (by (with_reducible repeat (first | refine kB ?_ _ | refine kE ?_ | refine kC ?_ _)); exact BK670.out) hb)
                    have n9_ := Aside0.mk (kM (by repeat (first | (with_reducible first | exact HB.out | apply kG | apply kD | apply kF | refine kA ?_ GE642.out | refine kA ?_ GE643.out | refine kA ?_ GE644.out | refine kA ?_ GE648.out | refine kA ?_ GE652.out | refine kA ?_ GE656.out | refine kA ?_ GE660.out | refine kA ?_ GE665.out | refine kA ?_ GE670.out) | exact HB.out)) hb)
                    clear BK642
                    clear BK643
                    clear BK644
                    clear BK648
                    clear BK652
                    clear BK656
                    clear BK660
                    clear BK665
                    clear BK670
                    clear HB
                    have BK642 := n0_
                    have BK643 := n1_
                    have BK644 := n2_
                    have BK648 := n3_
                    have BK652 := n4_
                    have BK656 := n5_
                    have BK660 := n6_
                    have BK665 := n7_
                    have BK670 := n8_
                    have HB := n9_
                    clear n0_ n1_ n2_ n3_ n4_ n5_ n6_ n7_ n8_ n9_
                    (try clear hb)
                    (try clear hb2)
                    (try clear hk)
                    (try clear hi)
                    refine hK.out _ _ ⟨(kH BK648.out 0).trans rfl, (kH BK648.out 1).trans rfl, (kH BK652.out 0).trans rfl, (kH BK652.out 1).trans rfl, (kH BK656.out 0).trans rfl, (kH BK656.out 1).trans rfl, (kH BK660.out 0).trans rfl, (kH BK660.out 1).trans rfl, (kH BK665.out 0).trans rfl, (kH BK665.out 1).trans rfl, (kH BK670.out 0).trans rfl, (kH BK670.out 1).trans rfl, (kH BK643.out 0).trans rfl, (kH BK643.out 1).trans rfl, (kH BK644.out 0).trans rfl, (kH BK644.out 1).trans rfl⟩ (fun hHeld => ?_)
                    clear hK K
                    refine norm_ (a' := ?_) ?_ ?_
                    rotate_left
                    · show Act.put _ (some 100) _ = _
                      simp only [Act.put, List.setIfInBounds_toArray, List.set_cons_zero, List.set_cons_succ, kN, kO]
                      rfl
                    refine one_ (i := 46) (N := some 103) #[true, true, true, true, true, true, true, true, true, true, true, true, true, true, true, true, true, true, true, true, true, true, true, true, true, true, true, true, true, true, true, true, true, true, true, true, true, true, true, true, true, true, true, true, true, true, true, false, false, false, false, false, false] rfl rfl (one_of HT_.out (by kernel_rfl)) (by decide) (fun K hK => ?_)
                    refine goes_ Try.func33 (by kernel_rfl) rfl #[.agg #[.int .i64 a2_0, .int .i64 a2_1], .agg #[.int .i64 a3_0, .int .i64 a3_1]] (by rfl) rfl rfl (by (try simp only [List.map_toArray, List.map_cons, List.map_nil]); first | done | rfl | (simp only [List.length_drop, List.length_take]; rfl)) ?_
                    with_reducible refine (computusref15_CmpStamp.calls k a2_0 a2_1 a3_0 a3_1 t674 _ A22.out).mono ?_
                    rintro e w93 ⟨rfl, hb⟩
                    refine ⟨_, rfl, ?_⟩
                    have n0_ := Aside0.mk (kI (g := gb642) (o := .cells #[.int .i64 a0_0, .int .i64 a0_1] 23 (0, 0)) (by (with_reducible repeat (first | refine kB ?_ _ | refine kE ?_ | refine kC ?_ _)); exact BK642.out) hb)
                    have n1_ := Aside0.mk (kI (g := gb643) (o := .cells #[.int .i64 a2_0, .int .i64 a2_1] 33 (0, 0)) (by (with_reducible repeat (first | refine kB ?_ _ | refine kE ?_ | refine kC ?_ _)); exact BK643.out) hb)
                    have n2_ := Aside0.mk (kI (g := gb644) (o := .cells #[.int .i64 a3_0, .int .i64 a3_1] 33 (0, 0)) (by (with_reducible repeat (first | refine kB ?_ _ | refine kE ?_ | refine kC ?_ _)); exact BK644.out) hb)
                    have n3_ := Aside0.mk (kI (g := gb648) (o := .cells #[.int .i64 t645, .int .i64 t646] 33 (0, 0)) (by (with_reducible repeat (first | refine kB ?_ _ | refine kE ?_ | refine kC ?_ _)); exact BK648.out) hb)
                    have n4_ := Aside0.mk (kI (g := gb652) (o := .cells #[.int .i64 t649, .int .i64 t650] 33 (0, 0)) (by (with_reducible repeat (first | refine kB ?_ _ | refine kE ?_ | refine kC ?_ _)); exact BK652.out) hb)
                    have n5_ := Aside0.mk (kI (g := gb656) (o := .cells #[.int .i64 t653, .int .i64 t654] 33 (0, 0)) (by (with_reducible repeat (first | refine kB ?_ _ | refine kE ?_ | refine kC ?_ _)); exact BK656.out) hb)
                    have n6_ := Aside0.mk (kI (g := gb660) (o := .cells #[.int .i64 t657, .int .i64 t658] 33 (0, 0)) (by (with_reducible repeat (first | refine kB ?_ _ | refine kE ?_ | refine kC ?_ _)); exact BK660.out) hb)
                    have n7_ := Aside0.mk (kI (g := gb665) (o := .cells #[.int .i64 t661, .int .i64 t662] 23 (0, 0)) (by (with_reducible repeat (first | refine kB ?_ _ | refine kE ?_ | refine kC ?_ _)); exact BK665.out) hb)
                    have n8_ := Aside0.mk (kI (g := gb670) (o := .cells #[.int .i64 t666, .int .i64 t667] 23 (0, 0)) (by (with_reducible repeat (first | refine kB ?_ _ | refine kE ?_ | refine kC ?_ _)); exact BK670.out) hb)
                    have n9_ := Aside0.mk (kM (by repeat (first | (with_reducible first | exact HB.out | apply kG | apply kD | apply kF | refine kA ?_ GE642.out | refine kA ?_ GE643.out | refine kA ?_ GE644.out | refine kA ?_ GE648.out | refine kA ?_ GE652.out | refine kA ?_ GE656.out | refine kA ?_ GE660.out | refine kA ?_ GE665.out | refine kA ?_ GE670.out) | exact HB.out)) hb)
                    clear BK642
                    clear BK643
                    clear BK644
                    clear BK648
                    clear BK652
                    clear BK656
                    clear BK660
                    clear BK665
                    clear BK670
                    clear HB
                    have BK642 := n0_
                    have BK643 := n1_
                    have BK644 := n2_
                    have BK648 := n3_
                    have BK652 := n4_
                    have BK656 := n5_
                    have BK660 := n6_
                    have BK665 := n7_
                    have BK670 := n8_
                    have HB := n9_
                    clear n0_ n1_ n2_ n3_ n4_ n5_ n6_ n7_ n8_ n9_
                    (try clear hb)
                    (try clear hb2)
                    (try clear hk)
                    (try clear hi)
                    refine hK.out _ _ ⟨(kH BK648.out 0).trans rfl, (kH BK648.out 1).trans rfl, (kH BK652.out 0).trans rfl, (kH BK652.out 1).trans rfl, (kH BK656.out 0).trans rfl, (kH BK656.out 1).trans rfl, (kH BK660.out 0).trans rfl, (kH BK660.out 1).trans rfl, (kH BK665.out 0).trans rfl, (kH BK665.out 1).trans rfl, (kH BK670.out 0).trans rfl, (kH BK670.out 1).trans rfl, (kH BK643.out 0).trans rfl, (kH BK643.out 1).trans rfl, (kH BK644.out 0).trans rfl, (kH BK644.out 1).trans rfl⟩ (fun hHeld => ?_)
                    clear hK K
                    refine norm_ (a' := ?_) ?_ ?_
                    rotate_left
                    · show Act.put _ (some 103) _ = _
                      simp only [Act.put, List.setIfInBounds_toArray, List.set_cons_zero, List.set_cons_succ, kN, kO]
                      rfl
                    refine pure_ (i := 47) (N := some 104) (v := ?_) (a' := ?_) #[true, true, true, true, true, true, true, true, true, true, true, true, true, true, true, true, true, true, true, true, true, true, true, true, true, true, true, true, true, true, true, true, true, true, true, true, true, true, true, true, true, true, true, true, true, true, true, true, false, false, false, false, false] rfl rfl (kQ HT_.out (by kernel_rfl)) (fun _ _ _ h => h) (Or.inl ⟨by rfl, ?_⟩) ?_ ?_
                    rotate_left
                    · intro w'
                      go_simp
                      with_reducible rfl
                    rotate_left
                    · simp only [Act.put, List.setIfInBounds_toArray, List.set_cons_zero, List.set_cons_succ, kN, kO]
                      rfl
                    refine pure_ (i := 48) (N := some 105) (v := ?_) (a' := ?_) #[true, true, true, true, true, true, true, true, true, true, true, true, true, true, true, true, true, true, true, true, true, true, true, true, true, true, true, true, true, true, true, true, true, true, true, true, true, true, true, true, true, true, true, true, true, true, true, true, true, false, false, false, false] rfl rfl (kQ HT_.out (by kernel_rfl)) (fun _ _ _ h => h) (Or.inl ⟨by rfl, ?_⟩) ?_ ?_
                    rotate_left
                    · intro w'
                      go_simp
                      with_reducible rfl
                    rotate_left
                    · simp only [Act.put, List.setIfInBounds_toArray, List.set_cons_zero, List.set_cons_succ, kN, kO]
                      rfl
                    refine pure_ (i := 49) (N := some 106) (v := ?_) (a' := ?_) #[true, true, true, true, true, true, true, true, true, true, true, true, true, true, true, true, true, true, true, true, true, true, true, true, true, true, true, true, true, true, true, true, true, true, true, true, true, true, true, true, true, true, true, true, true, true, true, true, true, true, false, false, false] rfl rfl (kQ HT_.out (by kernel_rfl)) (fun _ _ _ h => h) (Or.inl ⟨by rfl, ?_⟩) ?_ ?_
                    rotate_left
                    · intro w'
                      go_simp
                      with_reducible rfl
                    rotate_left
                    · simp only [Act.put, List.setIfInBounds_toArray, List.set_cons_zero, List.set_cons_succ, kN, kO]
                      rfl
                    refine one_ (i := 50) (N := some 107) #[true, true, true, true, true, true, true, true, true, true, true, true, true, true, true, true, true, true, true, true, true, true, true, true, true, true, true, true, true, true, true, true, true, true, true, true, true, true, true, true, true, true, true, true, true, true, true, true, true, true, true, false, false] rfl rfl (one_of HT_.out (by kernel_rfl)) (by decide) (fun K hK => ?_)
                    refine goes_ Try.func15 (by kernel_rfl) rfl #[] (by rfl) rfl rfl (by (try simp only [List.map_toArray, List.map_cons, List.map_nil]); first | done | rfl | (simp only [List.length_drop, List.length_take]; rfl)) ?_
                    with_reducible refine (computuslaw15_known.calls k  t675 _ A24.out HRT.out).mono ?_
                    rintro e w94 ⟨rfl, hb⟩
                    refine ⟨_, rfl, ?_⟩
                    have n0_ := Aside0.mk (kI (g := gb642) (o := .cells #[.int .i64 a0_0, .int .i64 a0_1] 23 (0, 0)) (by (with_reducible repeat (first | refine kB ?_ _ | refine kE ?_ | refine kC ?_ _)); exact BK642.out) hb)
                    have n1_ := Aside0.mk (kI (g := gb643) (o := .cells #[.int .i64 a2_0, .int .i64 a2_1] 33 (0, 0)) (by (with_reducible repeat (first | refine kB ?_ _ | refine kE ?_ | refine kC ?_ _)); exact BK643.out) hb)
                    have n2_ := Aside0.mk (kI (g := gb644) (o := .cells #[.int .i64 a3_0, .int .i64 a3_1] 33 (0, 0)) (by (with_reducible repeat (first | refine kB ?_ _ | refine kE ?_ | refine kC ?_ _)); exact BK644.out) hb)
                    have n3_ := Aside0.mk (kI (g := gb648) (o := .cells #[.int .i64 t645, .int .i64 t646] 33 (0, 0)) (by (with_reducible repeat (first | refine kB ?_ _ | refine kE ?_ | refine kC ?_ _)); exact BK648.out) hb)
                    have n4_ := Aside0.mk (kI (g := gb652) (o := .cells #[.int .i64 t649, .int .i64 t650] 33 (0, 0)) (by (with_reducible repeat (first | refine kB ?_ _ | refine kE ?_ | refine kC ?_ _)); exact BK652.out) hb)
                    have n5_ := Aside0.mk (kI (g := gb656) (o := .cells #[.int .i64 t653, .int .i64 t654] 33 (0, 0)) (by (with_reducible repeat (first | refine kB ?_ _ | refine kE ?_ | refine kC ?_ _)); exact BK656.out) hb)
                    have n6_ := Aside0.mk (kI (g := gb660) (o := .cells #[.int .i64 t657, .int .i64 t658] 33 (0, 0)) (by (with_reducible repeat (first | refine kB ?_ _ | refine kE ?_ | refine kC ?_ _)); exact BK660.out) hb)
                    have n7_ := Aside0.mk (kI (g := gb665) (o := .cells #[.int .i64 t661, .int .i64 t662] 23 (0, 0)) (by (with_reducible repeat (first | refine kB ?_ _ | refine kE ?_ | refine kC ?_ _)); exact BK665.out) hb)
                    have n8_ := Aside0.mk (kI (g := gb670) (o := .cells #[.int .i64 t666, .int .i64 t667] 23 (0, 0)) (by (with_reducible repeat (first | refine kB ?_ _ | refine kE ?_ | refine kC ?_ _)); exact BK670.out) hb)
                    have n9_ := Aside0.mk (kM (by repeat (first | (with_reducible first | exact HB.out | apply kG | apply kD | apply kF | refine kA ?_ GE642.out | refine kA ?_ GE643.out | refine kA ?_ GE644.out | refine kA ?_ GE648.out | refine kA ?_ GE652.out | refine kA ?_ GE656.out | refine kA ?_ GE660.out | refine kA ?_ GE665.out | refine kA ?_ GE670.out) | exact HB.out)) hb)
                    clear BK642
                    clear BK643
                    clear BK644
                    clear BK648
                    clear BK652
                    clear BK656
                    clear BK660
                    clear BK665
                    clear BK670
                    clear HB
                    have BK642 := n0_
                    have BK643 := n1_
                    have BK644 := n2_
                    have BK648 := n3_
                    have BK652 := n4_
                    have BK656 := n5_
                    have BK660 := n6_
                    have BK665 := n7_
                    have BK670 := n8_
                    have HB := n9_
                    clear n0_ n1_ n2_ n3_ n4_ n5_ n6_ n7_ n8_ n9_
                    (try clear hb)
                    (try clear hb2)
                    (try clear hk)
                    (try clear hi)
                    refine hK.out _ _ ⟨(kH BK648.out 0).trans rfl, (kH BK648.out 1).trans rfl, (kH BK652.out 0).trans rfl, (kH BK652.out 1).trans rfl, (kH BK656.out 0).trans rfl, (kH BK656.out 1).trans rfl, (kH BK660.out 0).trans rfl, (kH BK660.out 1).trans rfl, (kH BK665.out 0).trans rfl, (kH BK665.out 1).trans rfl, (kH BK670.out 0).trans rfl, (kH BK670.out 1).trans rfl, (kH BK643.out 0).trans rfl, (kH BK643.out 1).trans rfl, (kH BK644.out 0).trans rfl, (kH BK644.out 1).trans rfl⟩ (fun hHeld => ?_)
                    clear hK K
                    refine norm_ (a' := ?_) ?_ ?_
                    rotate_left
                    · show Act.put _ (some 107) _ = _
                      simp only [Act.put, List.setIfInBounds_toArray, List.set_cons_zero, List.set_cons_succ, kN, kO]
                      rfl
                    refine pure_ (i := 51) (N := some 108) (v := ?_) (a' := ?_) #[true, true, true, true, true, true, true, true, true, true, true, true, true, true, true, true, true, true, true, true, true, true, true, true, true, true, true, true, true, true, true, true, true, true, true, true, true, true, true, true, true, true, true, true, true, true, true, true, true, true, true, true, false] rfl rfl (kQ HT_.out (by kernel_rfl)) (fun _ _ _ h => h) (Or.inl ⟨by rfl, ?_⟩) ?_ ?_
                    rotate_left
                    · intro w'
                      go_simp
                      with_reducible rfl
                    rotate_left
                    · simp only [Act.put, List.setIfInBounds_toArray, List.set_cons_zero, List.set_cons_succ, kN, kO]
                      rfl
                    refine pure_ (i := 52) (N := some 8) (v := ?_) (a' := ?_) #[true, true, true, true, true, true, true, true, true, true, true, true, true, true, true, true, true, true, true, true, true, true, true, true, true, true, true, true, true, true, true, true, true, true, true, true, true, true, true, true, true, true, true, true, true, true, true, true, true, true, true, true, true] rfl rfl (kQ HT_.out (by kernel_rfl)) (fun _ _ _ h => h) (Or.inl ⟨by rfl, ?_⟩) ?_ ?_
                    rotate_left
                    · intro w'
                      go_simp
                      with_reducible rfl
                    rotate_left
                    · simp only [Act.put, List.setIfInBounds_toArray, List.set_cons_zero, List.set_cons_succ, kN, kO]
                      rfl
                    refine done_ (done_of HT_.out (by kernel_rfl)) ?_
                    try go_wp2
                    go_ret
                    exact ⟨by first | rfl | (simp [errW_none, errW_some] <;> rfl) | (simp [*, errW_none, errW_some] <;> rfl), by repeat (first | (with_reducible first | exact HB.out | apply kG | apply kD | apply kF | refine kA ?_ GE642.out | refine kA ?_ GE643.out | refine kA ?_ GE644.out | refine kA ?_ GE648.out | refine kA ?_ GE652.out | refine kA ?_ GE656.out | refine kA ?_ GE660.out | refine kA ?_ GE665.out | refine kA ?_ GE670.out) | exact HB.out)⟩
                  · rw [if_neg c23] at H
                    have c23b0 : (t673 == t674) = false := beq_eq_false_iff_ne.mpr c23
                    have c23b1 : (t673 != t674) = true := bne_iff_ne.mpr c23
                    exact absurd (Option.some.inj H) (by rw [HRT.out]; decide)
                · rw [if_neg c20] at H
                  have c20b0 : (t671 == t672) = false := by simpa using c20
                  (try (have c20b1 : decide (t671 = t672) = false := by simpa using c20))
                  (try (have c20b2 : (t671 == t672) = false := by simpa using c20))
                  (try (have c20b3 : ¬ (t671 = t672) := by simpa using c20))
                  clear c20
                  exact absurd (Option.some.inj H) (by rw [HRT.out]; decide)
              · rw [if_neg c17] at H
                have c17b0 : (t664 == t669) = false := beq_eq_false_iff_ne.mpr c17
                have c17b1 : (t664 != t669) = true := bne_iff_ne.mpr c17
                exact absurd (Option.some.inj H) (by rw [HRT.out]; decide)
            · rw [if_neg c16] at H
              have c16b0 : (t663 == t668) = false := beq_eq_false_iff_ne.mpr c16
              have c16b1 : (t663 != t668) = true := bne_iff_ne.mpr c16
              exact absurd (Option.some.inj H) (by rw [HRT.out]; decide)
          · rw [if_neg c15] at H
            have c15b0 : (t661 == t666 && (t662 == t667)) = false := by simpa using c15
            (try (have c15b1 : decide (t661 = t666 && (t662 == t667)) = false := by simpa using c15))
            (try (have c15b2 : (t661 == t666 && (t662 == t667)) = false := by simpa using c15))
            (try (have c15b3 : ¬ (t661 = t666 && (t662 == t667)) := by simpa using c15))
            clear c15
            exact absurd (Option.some.inj H) (by rw [HRT.out]; decide)
        · rw [if_neg c14] at H
          have c14b0 : (t655 == t659) = false := beq_eq_false_iff_ne.mpr c14
          have c14b1 : (t655 != t659) = true := bne_iff_ne.mpr c14
          exact absurd (Option.some.inj H) (by rw [HRT.out]; decide)
      · rw [if_neg c13] at H
        have c13b0 : (t653 == t657 && (t654 == t658)) = false := by simpa using c13
        (try (have c13b1 : decide (t653 = t657 && (t654 == t658)) = false := by simpa using c13))
        (try (have c13b2 : (t653 == t657 && (t654 == t658)) = false := by simpa using c13))
        (try (have c13b3 : ¬ (t653 = t657 && (t654 == t658)) := by simpa using c13))
        clear c13
        exact absurd (Option.some.inj H) (by rw [HRT.out]; decide)
    · rw [if_neg c12] at H
      have c12b0 : (t647 == t651) = false := beq_eq_false_iff_ne.mpr c12
      have c12b1 : (t647 != t651) = true := bne_iff_ne.mpr c12
      exact absurd (Option.some.inj H) (by rw [HRT.out]; decide)
  · rw [if_neg c11] at H
    have c11b0 : (t645 == t649 && (t646 == t650)) = false := by simpa using c11
    (try (have c11b1 : decide (t645 = t649 && (t646 == t650)) = false := by simpa using c11))
    (try (have c11b2 : (t645 == t649 && (t646 == t650)) = false := by simpa using c11))
    (try (have c11b3 : ¬ (t645 = t649 && (t646 == t650)) := by simpa using c11))
    clear c11
    exact absurd (Option.some.inj H) (by rw [HRT.out]; decide)
/-- THE ONE PURE STATEMENT of computuslaw15_DayStamps: yours. -/
def computuslaw15_DayStamps.Pure : Prop := ∀ (a0_0 : Int) (a0_1 : Int) (a1 : Int) (a2_0 : Int) (a2_1 : Int) (a3_0 : Int) (a3_1 : Int), (Lit.int .i64 a0_0).wf = true → (Lit.int .i64 a0_1).wf = true → (Lit.int .i64 a1).wf = true → (Lit.int .i64 a2_0).wf = true → (Lit.int .i64 a2_1).wf = true → (Lit.int .i64 a3_0).wf = true → (Lit.int .i64 a3_1).wf = true → ∃ k, computuslaw15_DayStamps.f k a0_0 a0_1 a1 a2_0 a2_1 a3_0 a3_1 = some true
theorem computuslaw15_DayStamps.walk (P : computuslaw15_DayStamps.Pure) (a0_0 : Int) (a0_1 : Int) (a1 : Int) (a2_0 : Int) (a2_1 : Int) (a3_0 : Int) (a3_1 : Int) (w : World) (w0_0 : (Lit.int .i64 a0_0).wf = true) (w0_1 : (Lit.int .i64 a0_1).wf = true) (w1 : (Lit.int .i64 a1).wf = true) (w2_0 : (Lit.int .i64 a2_0).wf = true) (w2_1 : (Lit.int .i64 a2_1).wf = true) (w3_0 : (Lit.int .i64 a3_0).wf = true) (w3_1 : (Lit.int .i64 a3_1).wf = true) :
    Calls Try.prog 7 #[.agg #[.int .i64 a0_0, .int .i64 a0_1], .int .i64 a1, .agg #[.int .i64 a2_0, .int .i64 a2_1], .agg #[.int .i64 a3_0, .int .i64 a3_1]] w fun e w' => e = .returned (.bool true) ∧ Below w.heap.size w w' := by
  obtain ⟨k, h⟩ := P a0_0 a0_1 a1 a2_0 a2_1 a3_0 a3_1 w0_0 w0_1 w1 w2_0 w2_1 w3_0 w3_1
  refine (computuslaw15_DayStamps.calls k a0_0 a0_1 a1 a2_0 a2_1 a3_0 a3_1 true w h rfl).mono ?_
  rintro e w' ⟨rfl, hd⟩
  exact ⟨rfl, hd⟩
end Go.Proofs.Ytgjbdojpncmmlaa.P
