-- Written by a program of the session (a print of the seat's translation, functions given by hand among it). Lean checks it.
import Derived.Test.YtkongoedgngfhaaQcgoepkfcmc
import Derived.Test.YtkongoedgngfhaaQegkakjlmho
import Derived.Test.YtkongoedgngfhaaQehjnekopoh
namespace Go.Proofs.Ytkongoedgngfhaa.P
open Go.RowKit Go.Proofs.YtkongoedgngfhaaW.PrintWords Go.Proofs.YtkongoedgngfhaaW.PrintLast Go.Proofs.YtkongoedgngfhaaW.PrintMore
open Go.Proofs.Ytkongoedgngfhaa.A
attribute [local go_sem] max2_int min2_int max_two min_two max_three min_three max_four min_four   -- for this text's walks alone
set_option linter.unusedVariables false
set_option linter.unusedSimpArgs false
mutual
def computusref04_Cmp.j0 : Nat → Bool → Int → Int → Int → Int → Option (Int)
  | 0, _, _, _, _, _ => none
  | k + 1, x14, x683000, x683001, x684000, x684001 => if x14 = true then (some 0) else ((computusref04_at.f k x683000 x683001 9).bind fun bt686 => ((computusref04_at.f k x684000 x684001 9).bind fun bt690 => ((computusref01_Minus.f k bt690.1 bt690.2).bind fun bt694 => ((computusref01_Plus.f k bt686.1 bt686.2 bt694.1 bt694.2).bind fun bt698 => (if bt698.1 = true then (some (-1)) else (computusref04_Cmp.l0 k 0 bt698.1 bt698.2))))))
def computusref04_Cmp.l0 : Nat → Int → Bool → List Int → Option (Int)
  | 0, _, _, _ => none
  | k + 1, x6, x703000, x703001 => if x6 < (x703001.length : Int) then (if 0 ≤ x6 then (if (rd x703001 x6) = 0 then (computusref04_Cmp.l0 k (wrap64 (x6 + 1)) x703000 x703001) else (some 1)) else (none)) else (some 0)
end
def computusref04_Cmp.f (k : Nat) (a0_0 : Int) (a0_1 : Int) (a1_0 : Int) (a1_1 : Int) : Option (Int) := (computusref04_Right.f a0_0 a0_1).bind fun t684 => (if t684 = true then ((computusref04_Right.f a1_0 a1_1).bind fun t685 => (computusref04_Cmp.j0 k (!t685) a0_0 a0_1 a1_0 a1_1)) else (computusref04_Cmp.j0 k true a0_0 a0_1 a1_0 a1_1))
theorem computusref04_Cmp.mono_l : ∀ k, (∀ y0 y1 y2 y3 y4, LeO (computusref04_Cmp.j0 k y0 y1 y2 y3 y4) (computusref04_Cmp.j0 (k + 1) y0 y1 y2 y3 y4)) ∧ (∀ y0 y1 y2, LeO (computusref04_Cmp.l0 k y0 y1 y2) (computusref04_Cmp.l0 (k + 1) y0 y1 y2))
  | 0 => ⟨fun _ _ _ _ _ r h => by simp [computusref04_Cmp.j0] at h, fun _ _ _ r h => by simp [computusref04_Cmp.l0] at h⟩
  | k + 1 => by
    obtain ⟨ih0, ih1⟩ := computusref04_Cmp.mono_l k
    refine ⟨?_, ?_⟩
    · intro y0 y1 y2 y3 y4
      unfold computusref04_Cmp.j0
      repeat' first
      | (with_reducible exact ih0 _ _ _ _ _)
      | (with_reducible exact ih1 _ _ _)
      | (with_reducible exact computusref01_Minus.mono _ _ _)
      | (with_reducible exact computusref01_Plus.mono _ _ _ _ _)
      | (with_reducible exact computusref04_at.mono _ _ _ _)
      | (with_reducible exact LeO.refl _)
      | (with_reducible exact LeO.none _)
      | (with_reducible refine LeO.ite ?_ ?_)
      | (with_reducible refine LeO.bind ?_ (fun _ => ?_))
      | exact ih0 _ _ _ _ _
      | exact ih1 _ _ _
      | exact computusref01_Minus.mono _ _ _
      | exact computusref01_Plus.mono _ _ _ _ _
      | exact computusref04_at.mono _ _ _ _
      | exact LeO.none _
      | refine LeO.ite ?_ ?_
      | refine LeO.bind ?_ (fun _ => ?_)
    · intro y0 y1 y2
      unfold computusref04_Cmp.l0
      repeat' first
      | (with_reducible exact ih0 _ _ _ _ _)
      | (with_reducible exact ih1 _ _ _)
      | (with_reducible exact computusref01_Minus.mono _ _ _)
      | (with_reducible exact computusref01_Plus.mono _ _ _ _ _)
      | (with_reducible exact computusref04_at.mono _ _ _ _)
      | (with_reducible exact LeO.refl _)
      | (with_reducible exact LeO.none _)
      | (with_reducible refine LeO.ite ?_ ?_)
      | (with_reducible refine LeO.bind ?_ (fun _ => ?_))
      | exact ih0 _ _ _ _ _
      | exact ih1 _ _ _
      | exact computusref01_Minus.mono _ _ _
      | exact computusref01_Plus.mono _ _ _ _ _
      | exact computusref04_at.mono _ _ _ _
      | exact LeO.none _
      | refine LeO.ite ?_ ?_
      | refine LeO.bind ?_ (fun _ => ?_)
def computusref04_Cmp.T3 : Bool × List (List Nat × List Nat) := (true, [([], []), ([0], [0]), ([], []), ([2, 1], [2]), ([3, 3], [3]), ([1, 4, 4], [1, 4]), ([], []), ([6, 5, 5, 0, 1, 2, 3, 4, 5, 6], [5, 6])])
def computusref04_Cmp.B3 : List Nat := [0, 1, 0, 7, 15, 31, 0, 127]
theorem computusref04_Cmp.tab3 : rtab .any (opsOf Try.f30 3) = computusref04_Cmp.T3 := by kernel_rfl
theorem computusref04_Cmp.bits3 : waitsOk computusref04_Cmp.T3.2 computusref04_Cmp.B3 = true := by kernel_rfl
set_option maxHeartbeats 8000000 in
set_option maxRecDepth 100000 in
theorem computusref04_Cmp.calls (k : Nat) (a0_0 : Int) (a0_1 : Int) (a1_0 : Int) (a1_1 : Int) (r : Int) (w : World) (h : computusref04_Cmp.f k a0_0 a0_1 a1_0 a1_1 = some r) :
    Calls Try.prog 30 #[.agg #[.int .i64 a0_0, .int .i64 a0_1], .agg #[.int .i64 a1_0, .int .i64 a1_1]] w fun e w' => e = .returned (.int .i64 r) ∧ Below w.heap.size w w' := by
  have hu23 := Try.underlying23
  have hu60 := Try.underlying60
  have HB := Aside0.mk (Below.refl w.heap.size w)
  have H : ((computusref04_Right.f a0_0 a0_1).bind fun t684 => (if t684 = true then ((computusref04_Right.f a1_0 a1_1).bind fun t685 => (computusref04_Cmp.j0 k (!t685) a0_0 a0_1 a1_0 a1_1)) else (computusref04_Cmp.j0 k true a0_0 a0_1 a1_0 a1_1))) = some r := h
  clear h
  have HC3 := Aside0.mk H
  clear H
  go_enter Try.func30, Try.ntmps30
  go_upto_region 1 with (first | ((with_reducible refine gate_dst (N := 2) rfl ?_); refine box_event ?hg (N := 2) ?hd (cs := #[.int .i64 a0_0, .int .i64 a0_1]) (t := 23) ?hr ?_; (case hd => rfl); (case hg => rfl); (case hr => first | (go_simp; done) | (go_simp; rfl)); intro gb682 hg w4 hbox hb; have n0_ := Aside0.mk (kL (by repeat (first | (with_reducible first | exact HB.out | apply kF | apply kB | apply kG) | exact HB.out)) hb); have n1_ := Aside0.mk (hbox); have n2_ := Aside0.mk ((by rw [hg]; exact (kK (by repeat (first | (with_reducible first | exact HB.out | apply kF | apply kB | apply kG) | exact HB.out))) : w.heap.size ≤ gb682)); have n3_ := Aside0.mk ((by rw [hg]; exact (kK (by repeat (first | (with_reducible first | exact HB.out | apply kF | apply kB | apply kG) | exact HB.out))) : w.heap.size ≤ gb682)); clear HB; have HB := n0_; have BK682 := n1_; have GW682 := n2_; have GE682 := n3_; clear n0_ n1_ n2_ n3_; clear hb hbox hg) | ((with_reducible refine gate_dst (N := 3) rfl ?_); refine box_event ?hg (N := 3) ?hd (cs := #[.int .i64 a1_0, .int .i64 a1_1]) (t := 23) ?hr ?_; (case hd => rfl); (case hg => rfl); (case hr => first | (go_simp; done) | (go_simp; rfl)); intro gb683 hg w5 hbox hb; have n0_ := Aside0.mk (kI (g := gb682) (o := .cells #[.int .i64 a0_0, .int .i64 a0_1] 23 (0, 0)) (by (with_reducible repeat (first | refine kC ?_ _ | refine kE ?_ | refine kD ?_ _)); exact BK682.out) hb); have n1_ := Aside0.mk (kL (by repeat (first | (with_reducible first | exact HB.out | apply kF | apply kB | apply kG | refine kA ?_ GE682.out) | exact HB.out)) hb); have n2_ := Aside0.mk (hbox); have n3_ := Aside0.mk ((by rw [hg]; exact (kK (by repeat (first | (with_reducible first | exact HB.out | apply kF | apply kB | apply kG | refine kA ?_ GE682.out) | exact HB.out))) : w.heap.size ≤ gb683)); have n4_ := Aside0.mk ((by rw [hg]; exact (kK (by repeat (first | (with_reducible first | exact HB.out | apply kF | apply kB | apply kG | refine kA ?_ GE682.out) | exact HB.out))) : w.heap.size ≤ gb683)); have n5_ := Aside0.mk ((by rw [hg]; exact Nat.ne_of_lt (kM (g := gb682) (o := .cells #[.int .i64 a0_0, .int .i64 a0_1] 23 (0, 0)) (by (with_reducible repeat (first | refine kC ?_ _ | refine kE ?_ | refine kD ?_ _)); exact BK682.out)) : gb682 ≠ gb683)); have n6_ := Aside0.mk ((by rw [hg]; exact Nat.ne_of_gt (kM (g := gb682) (o := .cells #[.int .i64 a0_0, .int .i64 a0_1] 23 (0, 0)) (by (with_reducible repeat (first | refine kC ?_ _ | refine kE ?_ | refine kD ?_ _)); exact BK682.out)) : gb683 ≠ gb682)); clear BK682; clear HB; have BK682 := n0_; have HB := n1_; have BK683 := n2_; have GW683 := n3_; have GE683 := n4_; have NB682_683 := n5_; have NB683_682 := n6_; clear n0_ n1_ n2_ n3_ n4_ n5_ n6_; clear hb hbox hg))
  (try simp only [Act.put, List.setIfInBounds_toArray, List.set_cons_zero, List.set_cons_succ])
  go_cut [14] (fun v14 wc => ∃ (kq : Nat) (x14_2 : Bool), v14 = .bool x14_2 ∧ Aside0 (computusref04_Cmp.j0 kq x14_2 a0_0 a0_1 a1_0 a1_1 = some r) ∧ Aside0 (kq ≤ k) ∧ Aside0 (wc.heap[gb682]? = some (.cells #[.int .i64 a0_0, .int .i64 a0_1] 23 (0, 0))) ∧ Aside0 (wc.heap[gb683]? = some (.cells #[.int .i64 a1_0, .int .i64 a1_1] 23 (0, 0))) ∧ Aside0 (Below w.heap.size w wc))
  case first =>
    have H := HC3.out
    clear HC3
    replace H := Option.bind_eq_some_iff.mp H
    obtain ⟨t684, A60, H⟩ := H
    replace H : (if t684 = true then ((computusref04_Right.f a1_0 a1_1).bind fun t685 => (computusref04_Cmp.j0 k (!t685) a0_0 a0_1 a1_0 a1_1)) else (computusref04_Cmp.j0 k true a0_0 a0_1 a1_0 a1_1)) = some r := H
    have A6 := Aside0.mk A60
    clear A60
    by_cases c7 : t684 = true
    · subst c7
      have H1 : ((computusref04_Right.f a1_0 a1_1).bind fun t685 => (computusref04_Cmp.j0 k (!t685) a0_0 a0_1 a1_0 a1_1)) = some r := by rw [if_pos rfl] at H; exact H
      clear H
      have H := H1
      clear H1
      replace H := Option.bind_eq_some_iff.mp H
      obtain ⟨t685, A80, H⟩ := H
      replace H : (computusref04_Cmp.j0 k (!t685) a0_0 a0_1 a1_0 a1_1) = some r := H
      have A8 := Aside0.mk A80
      clear A80
      have H' := Aside0.mk H
      clear H
      have hnb9 := NB682_683.out
      have hnc9 := NB683_682.out
      have hcz10_0 : w5.cell? ⟨gb682, 0, none⟩ = some (.int .i64 a0_0) := (kH BK682.out 0).trans rfl
      have hcz10_1 : w5.cell? ⟨gb682, 1, none⟩ = some (.int .i64 a0_1) := (kH BK682.out 1).trans rfl
      have hfz10_0 := kJ BK682.out 0
      have hfz10_1 := kJ BK682.out 1
      go_wp2_with (first | ((with_reducible refine gate_callee (f := 15) rfl ?_); refine goesL_ (some 8) rfl rfl Try.func15 (by kernel_rfl) rfl #[.agg #[.int .i64 a0_0, .int .i64 a0_1]] rfl (by (try simp only [List.map_toArray, List.map_cons, List.map_nil]); first | done | rfl | (simp only [List.length_drop, List.length_take]; rfl)) ?_; (with_reducible refine (computusref04_Right.calls a0_0 a0_1 true _ A6.out).mono ?_); rintro e w11 ⟨rfl, hb⟩; refine ⟨_, rfl, ?_⟩; have n0_ := Aside0.mk (kI (g := gb682) (o := .cells #[.int .i64 a0_0, .int .i64 a0_1] 23 (0, 0)) (by (with_reducible repeat (first | refine kC ?_ _ | refine kE ?_ | refine kD ?_ _)); exact BK682.out) hb); have n1_ := Aside0.mk (kI (g := gb683) (o := .cells #[.int .i64 a1_0, .int .i64 a1_1] 23 (0, 0)) (by (with_reducible repeat (first | refine kC ?_ _ | refine kE ?_ | refine kD ?_ _)); exact BK683.out) hb); have n2_ := Aside0.mk (kL (by repeat (first | (with_reducible first | exact HB.out | apply kF | apply kB | apply kG | refine kA ?_ GE682.out | refine kA ?_ GE683.out) | exact HB.out)) hb); clear BK682; clear BK683; clear HB; have BK682 := n0_; have BK683 := n1_; have HB := n2_; clear n0_ n1_ n2_; (try clear hb); (try clear hb2); (try clear hk); (try clear hi); have hcz12_0 : w11.cell? ⟨gb683, 0, none⟩ = some (.int .i64 a1_0) := (kH BK683.out 0).trans rfl; have hcz12_1 : w11.cell? ⟨gb683, 1, none⟩ = some (.int .i64 a1_1) := (kH BK683.out 1).trans rfl; have hfz12_0 := kJ BK683.out 0; have hfz12_1 := kJ BK683.out 1) | (go_at_call 15; (with_reducible refine (computusref04_Right.calls a1_0 a1_1 t685 _ A8.out).mono ?_); rintro e w13 ⟨rfl, hb⟩; have n0_ := Aside0.mk (kI (g := gb682) (o := .cells #[.int .i64 a0_0, .int .i64 a0_1] 23 (0, 0)) (by (with_reducible repeat (first | refine kC ?_ _ | refine kE ?_ | refine kD ?_ _)); exact BK682.out) hb); have n1_ := Aside0.mk (kI (g := gb683) (o := .cells #[.int .i64 a1_0, .int .i64 a1_1] 23 (0, 0)) (by (with_reducible repeat (first | refine kC ?_ _ | refine kE ?_ | refine kD ?_ _)); exact BK683.out) hb); have n2_ := Aside0.mk (kL (by repeat (first | (with_reducible first | exact HB.out | apply kF | apply kB | apply kG | refine kA ?_ GE682.out | refine kA ?_ GE683.out) | exact HB.out)) hb); clear BK682; clear BK683; clear HB; have BK682 := n0_; have BK683 := n1_; have HB := n2_; clear n0_ n1_ n2_; (try clear hb); (try clear hb2); (try clear hk); (try clear hi)))
      go_meet
      case rel => exact ⟨_, (!t685), (by first | rfl | (simp; done) | (simp [*]; done)), H', ⟨by first | omega | exact Nat.le_refl _⟩, ⟨by (with_reducible repeat (first | refine kC ?_ _ | refine kE ?_ | refine kD ?_ _)); exact BK682.out⟩, ⟨by (with_reducible repeat (first | refine kC ?_ _ | refine kE ?_ | refine kD ?_ _)); exact BK683.out⟩, ⟨by repeat (first | (with_reducible first | exact HB.out | apply kF | apply kB | apply kG | refine kA ?_ GE682.out | refine kA ?_ GE683.out) | exact HB.out)⟩⟩
    · replace c7 := Bool.eq_false_iff.mpr c7
      subst c7
      have H1 : (computusref04_Cmp.j0 k true a0_0 a0_1 a1_0 a1_1) = some r := by rw [if_neg (show ¬ (false = true) by decide)] at H; exact H
      clear H
      have H := H1
      clear H1
      have H' := Aside0.mk H
      clear H
      have hnb14 := NB682_683.out
      have hnc14 := NB683_682.out
      have hcz15_0 : w5.cell? ⟨gb682, 0, none⟩ = some (.int .i64 a0_0) := (kH BK682.out 0).trans rfl
      have hcz15_1 : w5.cell? ⟨gb682, 1, none⟩ = some (.int .i64 a0_1) := (kH BK682.out 1).trans rfl
      have hfz15_0 := kJ BK682.out 0
      have hfz15_1 := kJ BK682.out 1
      go_wp2_with (first | ((with_reducible refine gate_callee (f := 15) rfl ?_); refine goesL_ (some 8) rfl rfl Try.func15 (by kernel_rfl) rfl #[.agg #[.int .i64 a0_0, .int .i64 a0_1]] rfl (by (try simp only [List.map_toArray, List.map_cons, List.map_nil]); first | done | rfl | (simp only [List.length_drop, List.length_take]; rfl)) ?_; (with_reducible refine (computusref04_Right.calls a0_0 a0_1 false _ A6.out).mono ?_); rintro e w16 ⟨rfl, hb⟩; refine ⟨_, rfl, ?_⟩; have n0_ := Aside0.mk (kI (g := gb682) (o := .cells #[.int .i64 a0_0, .int .i64 a0_1] 23 (0, 0)) (by (with_reducible repeat (first | refine kC ?_ _ | refine kE ?_ | refine kD ?_ _)); exact BK682.out) hb); have n1_ := Aside0.mk (kI (g := gb683) (o := .cells #[.int .i64 a1_0, .int .i64 a1_1] 23 (0, 0)) (by (with_reducible repeat (first | refine kC ?_ _ | refine kE ?_ | refine kD ?_ _)); exact BK683.out) hb); have n2_ := Aside0.mk (kL (by repeat (first | (with_reducible first | exact HB.out | apply kF | apply kB | apply kG | refine kA ?_ GE682.out | refine kA ?_ GE683.out) | exact HB.out)) hb); clear BK682; clear BK683; clear HB; have BK682 := n0_; have BK683 := n1_; have HB := n2_; clear n0_ n1_ n2_; (try clear hb); (try clear hb2); (try clear hk); (try clear hi)))
      go_meet
      case rel => exact ⟨_, (true), (by first | rfl | (simp; done) | (simp [*]; done)), H', ⟨by first | omega | exact Nat.le_refl _⟩, ⟨by (with_reducible repeat (first | refine kC ?_ _ | refine kE ?_ | refine kD ?_ _)); exact BK682.out⟩, ⟨by (with_reducible repeat (first | refine kC ?_ _ | refine kE ?_ | refine kD ?_ _)); exact BK683.out⟩, ⟨by repeat (first | (with_reducible first | exact HB.out | apply kF | apply kB | apply kG | refine kA ?_ GE682.out | refine kA ?_ GE683.out) | exact HB.out)⟩⟩
  case rest =>
    clear HC3
    try clear c1
    try clear p2
    try clear c3
    try clear c7
    try clear c9
    try clear c14
    try clear c15
    try clear hcz10_0
    try clear hcz10_1
    try clear hcz12_0
    try clear hcz12_1
    try clear hcz15_0
    try clear hcz15_1
    try clear hfz10_0
    try clear hfz10_1
    try clear hfz12_0
    try clear hfz12_1
    try clear hfz15_0
    try clear hfz15_1
    obtain ⟨kq, x14_2, rfl, HA, HJ2, BK682, BK683, HB⟩ := hcut
    cases kq with
    | zero => exact absurd HA.out (by simp [computusref04_Cmp.j0])
    | succ kj2 =>
      have H := HA.out
      clear HA
      simp only [computusref04_Cmp.j0] at H
      by_cases c17 : x14_2 = true
      · subst c17
        have H1 : (some 0) = some r := by rw [if_pos rfl] at H; exact H
        clear H
        have H := H1
        clear H1
        obtain rfl := Option.some.inj H
        go_wp2
        go_ret
        exact ⟨by first | rfl | (simp [errW_none, errW_some] <;> rfl) | (simp [*, errW_none, errW_some] <;> rfl), by repeat (first | (with_reducible first | exact HB.out | apply kF | apply kB | apply kG | refine kA ?_ GE682.out | refine kA ?_ GE683.out) | exact HB.out)⟩
      · replace c17 := Bool.eq_false_iff.mpr c17
        subst c17
        have H1 : ((computusref04_at.f kj2 a0_0 a0_1 9).bind fun bt686 => ((computusref04_at.f kj2 a1_0 a1_1 9).bind fun bt690 => ((computusref01_Minus.f kj2 bt690.1 bt690.2).bind fun bt694 => ((computusref01_Plus.f kj2 bt686.1 bt686.2 bt694.1 bt694.2).bind fun bt698 => (if bt698.1 = true then (some (-1)) else (computusref04_Cmp.l0 kj2 0 bt698.1 bt698.2)))))) = some r := by rw [if_neg (show ¬ (false = true) by decide)] at H; exact H
        clear H
        have H := H1
        clear H1
        replace H := Option.bind_eq_some_iff.mp H
        obtain ⟨⟨t686, t687⟩, A180, H⟩ := H
        replace H : ((computusref04_at.f kj2 a1_0 a1_1 9).bind fun bt690 => ((computusref01_Minus.f kj2 bt690.1 bt690.2).bind fun bt694 => ((computusref01_Plus.f kj2 t686 t687 bt694.1 bt694.2).bind fun bt698 => (if bt698.1 = true then (some (-1)) else (computusref04_Cmp.l0 kj2 0 bt698.1 bt698.2))))) = some r := H
        have A18 := Aside0.mk A180
        clear A180
        replace H := Option.bind_eq_some_iff.mp H
        obtain ⟨⟨t690, t691⟩, A190, H⟩ := H
        replace H : ((computusref01_Minus.f kj2 t690 t691).bind fun bt694 => ((computusref01_Plus.f kj2 t686 t687 bt694.1 bt694.2).bind fun bt698 => (if bt698.1 = true then (some (-1)) else (computusref04_Cmp.l0 kj2 0 bt698.1 bt698.2)))) = some r := H
        have A19 := Aside0.mk A190
        clear A190
        replace H := Option.bind_eq_some_iff.mp H
        obtain ⟨⟨t694, t695⟩, A200, H⟩ := H
        replace H : ((computusref01_Plus.f kj2 t686 t687 t694 t695).bind fun bt698 => (if bt698.1 = true then (some (-1)) else (computusref04_Cmp.l0 kj2 0 bt698.1 bt698.2))) = some r := H
        have A20 := Aside0.mk A200
        clear A200
        replace H := Option.bind_eq_some_iff.mp H
        obtain ⟨⟨t698, t699⟩, A210, H⟩ := H
        replace H : (if t698 = true then (some (-1)) else (computusref04_Cmp.l0 kj2 0 t698 t699)) = some r := H
        have A21 := Aside0.mk A210
        clear A210
        by_cases c22 : t698 = true
        · subst c22
          have H1 : (some (-1)) = some r := by rw [if_pos rfl] at H; exact H
          clear H
          have H := H1
          clear H1
          obtain rfl := Option.some.inj H
          try go_wp2
          have n0_ := Aside0.mk (kE BK682.out)
          have n1_ := Aside0.mk (kE BK683.out)
          have n2_ := Aside0.mk (kG HB.out)
          clear BK682
          clear BK683
          clear HB
          have BK682 := n0_
          have BK683 := n1_
          have HB := n2_
          clear n0_ n1_ n2_
          refine start_ (n := 8) (S := fun w' => w'.cell? ⟨gb682, 0, none⟩ = some (.int .i64 a0_0) ∧ w'.cell? ⟨gb682, 1, none⟩ = some (.int .i64 a0_1) ∧ w'.cell? ⟨gb683, 0, none⟩ = some (.int .i64 a1_0) ∧ w'.cell? ⟨gb683, 1, none⟩ = some (.int .i64 a1_1)) (ds := []) #[false, false, false, false, false, false, false, false] (by kernel_rfl) rfl rfl ⟨(kH BK682.out 0).trans rfl, (kH BK682.out 1).trans rfl, (kH BK683.out 0).trans rfl, (kH BK683.out 1).trans rfl⟩ (fun hHeld => ?_); refine with_tabW computusref04_Cmp.tab3 computusref04_Cmp.bits3 (fun HT_ HW_ => ?_)
          generalize wc.drew = w23 at BK682 BK683 HB hHeld ⊢
          refine take_ (i := 0) (N := some 15) (v := ?_) (a' := ?_) #[true, false, false, false, false, false, false, false] rfl rfl (take_ofW HT_.out HW_.out (by kernel_rfl)) (fun _ _ _ h => h) (Or.inl ⟨by rfl, ?_⟩) hHeld ?_ ?_
          rotate_left
          · rintro w' ⟨s0, s1, s2, s3⟩
            go_simp
            with_reducible rfl
          rotate_left
          · simp only [Act.put, List.setIfInBounds_toArray, List.set_cons_zero, List.set_cons_succ, i64_w, i32_w]
            rfl
          refine take_ (i := 2) (N := some 17) (v := ?_) (a' := ?_) #[true, false, true, false, false, false, false, false] rfl rfl (take_ofW HT_.out HW_.out (by kernel_rfl)) (fun _ _ _ h => h) (Or.inl ⟨by rfl, ?_⟩) hHeld ?_ ?_
          rotate_left
          · rintro w' ⟨s0, s1, s2, s3⟩
            go_simp
            with_reducible rfl
          rotate_left
          · simp only [Act.put, List.setIfInBounds_toArray, List.set_cons_zero, List.set_cons_succ, i64_w, i32_w]
            rfl
          refine join_ (σ := Value × Value × Value × Value × Nat) 1 #[true, true, true, true, true, true, true, false] (fun s_ => [(16, .agg #[.bool t686, s_.1]), (18, .agg #[.bool t690, s_.2.1]), (19, .agg #[.bool t694, s_.2.2.1]), (20, .agg #[.bool true, s_.2.2.2.1]), (5, .pointer (some ⟨s_.2.2.2.2, 0, none⟩))]) (fun s_ w' => (w'.cell? ⟨gb682, 0, none⟩ = some (.int .i64 a0_0) ∧ w'.cell? ⟨gb682, 1, none⟩ = some (.int .i64 a0_1) ∧ w'.cell? ⟨gb683, 0, none⟩ = some (.int .i64 a1_0) ∧ w'.cell? ⟨gb683, 1, none⟩ = some (.int .i64 a1_1)) ∧ (Kd.R (Kd.int .u64) 52 w' w.heap.size (fun k_ => some k_ ≠ (s_.2.2.1 : Value).ownBlock ∧ some k_ ≠ (s_.2.2.2.1 : Value).ownBlock) s_.1 t687) ∧ (Kd.R (Kd.int .u64) 52 w' w.heap.size (fun k_ => some k_ ≠ (s_.1 : Value).ownBlock ∧ some k_ ≠ (s_.2.2.2.1 : Value).ownBlock) s_.2.2.1 t695) ∧ (Kd.R (Kd.int .u64) 52 w' w.heap.size (fun k_ => some k_ ≠ (s_.1 : Value).ownBlock ∧ some k_ ≠ (s_.2.2.1 : Value).ownBlock) s_.2.2.2.1 t699) ∧ (w'.heap[gb682]? = some (.cells #[.int .i64 a0_0, .int .i64 a0_1] 23 (0, 0))) ∧ (w'.heap[gb683]? = some (.cells #[.int .i64 a1_0, .int .i64 a1_1] 23 (0, 0))) ∧ (w'.heap[s_.2.2.2.2]? = some (.cells #[.bool false, .slice none 0 0] 60 (0, 0))) ∧ (w.heap.size ≤ s_.2.2.2.2) ∧ (w.heap.size ≤ s_.2.2.2.2) ∧ (gb682 ≠ s_.2.2.2.2) ∧ (s_.2.2.2.2 ≠ gb682) ∧ (gb683 ≠ s_.2.2.2.2) ∧ (s_.2.2.2.2 ≠ gb683) ∧ (Below w.heap.size w w')) ?_ ?_
          rotate_left
          · intro hJ1_3_4_5_6
            refine join_ (σ := Value × Value × Value × Value) 2 #[true, true, true, true, true, true, false, false] (fun s_ => [(16, .agg #[.bool t686, s_.1]), (18, .agg #[.bool t690, s_.2.1]), (19, .agg #[.bool t694, s_.2.2.1]), (20, .agg #[.bool true, s_.2.2.2])]) (fun s_ w' => (w'.cell? ⟨gb682, 0, none⟩ = some (.int .i64 a0_0) ∧ w'.cell? ⟨gb682, 1, none⟩ = some (.int .i64 a0_1) ∧ w'.cell? ⟨gb683, 0, none⟩ = some (.int .i64 a1_0) ∧ w'.cell? ⟨gb683, 1, none⟩ = some (.int .i64 a1_1)) ∧ (Kd.R (Kd.int .u64) 52 w' w.heap.size (fun k_ => some k_ ≠ (s_.2.2.1 : Value).ownBlock ∧ some k_ ≠ (s_.2.2.2 : Value).ownBlock) s_.1 t687) ∧ (Kd.R (Kd.int .u64) 52 w' w.heap.size (fun k_ => some k_ ≠ (s_.1 : Value).ownBlock ∧ some k_ ≠ (s_.2.2.2 : Value).ownBlock) s_.2.2.1 t695) ∧ (Kd.R (Kd.int .u64) 52 w' w.heap.size (fun k_ => some k_ ≠ (s_.1 : Value).ownBlock ∧ some k_ ≠ (s_.2.2.1 : Value).ownBlock) s_.2.2.2 t699) ∧ (w'.heap[gb682]? = some (.cells #[.int .i64 a0_0, .int .i64 a0_1] 23 (0, 0))) ∧ (w'.heap[gb683]? = some (.cells #[.int .i64 a1_0, .int .i64 a1_1] 23 (0, 0))) ∧ (Below w.heap.size w w')) ?_ ?_
            rotate_left
            · intro hJ1_3_4_5
              refine join_ (σ := Value × Value × Value × Nat) 2 #[true, true, true, true, true, false, true, false] (fun s_ => [(16, .agg #[.bool t686, s_.1]), (18, .agg #[.bool t690, s_.2.1]), (19, .agg #[.bool t694, s_.2.2.1]), (5, .pointer (some ⟨s_.2.2.2, 0, none⟩))]) (fun s_ w' => (w'.cell? ⟨gb682, 0, none⟩ = some (.int .i64 a0_0) ∧ w'.cell? ⟨gb682, 1, none⟩ = some (.int .i64 a0_1) ∧ w'.cell? ⟨gb683, 0, none⟩ = some (.int .i64 a1_0) ∧ w'.cell? ⟨gb683, 1, none⟩ = some (.int .i64 a1_1)) ∧ (Kd.R (Kd.int .u64) 52 w' w.heap.size (fun k_ => some k_ ≠ (s_.2.2.1 : Value).ownBlock) s_.1 t687) ∧ (Kd.R (Kd.int .u64) 52 w' w.heap.size (fun k_ => some k_ ≠ (s_.1 : Value).ownBlock) s_.2.2.1 t695) ∧ (w'.heap[gb682]? = some (.cells #[.int .i64 a0_0, .int .i64 a0_1] 23 (0, 0))) ∧ (w'.heap[gb683]? = some (.cells #[.int .i64 a1_0, .int .i64 a1_1] 23 (0, 0))) ∧ (w'.heap[s_.2.2.2]? = some (.cells #[.bool false, .slice none 0 0] 60 (0, 0))) ∧ (w.heap.size ≤ s_.2.2.2) ∧ (w.heap.size ≤ s_.2.2.2) ∧ (gb682 ≠ s_.2.2.2) ∧ (s_.2.2.2 ≠ gb682) ∧ (gb683 ≠ s_.2.2.2) ∧ (s_.2.2.2 ≠ gb683) ∧ (Below w.heap.size w w')) ?_ ?_
              rotate_left
              · intro hJ1_3_4_6
                refine join_ (σ := Value × Value × Value) 3 #[true, true, true, true, true, false, false, false] (fun s_ => [(16, .agg #[.bool t686, s_.1]), (18, .agg #[.bool t690, s_.2.1]), (19, .agg #[.bool t694, s_.2.2])]) (fun s_ w' => (w'.cell? ⟨gb682, 0, none⟩ = some (.int .i64 a0_0) ∧ w'.cell? ⟨gb682, 1, none⟩ = some (.int .i64 a0_1) ∧ w'.cell? ⟨gb683, 0, none⟩ = some (.int .i64 a1_0) ∧ w'.cell? ⟨gb683, 1, none⟩ = some (.int .i64 a1_1)) ∧ (Kd.R (Kd.int .u64) 52 w' w.heap.size (fun k_ => some k_ ≠ (s_.2.2 : Value).ownBlock) s_.1 t687) ∧ (Kd.R (Kd.int .u64) 52 w' w.heap.size (fun k_ => some k_ ≠ (s_.1 : Value).ownBlock) s_.2.2 t695) ∧ (w'.heap[gb682]? = some (.cells #[.int .i64 a0_0, .int .i64 a0_1] 23 (0, 0))) ∧ (w'.heap[gb683]? = some (.cells #[.int .i64 a1_0, .int .i64 a1_1] 23 (0, 0))) ∧ (Below w.heap.size w w')) ?_ ?_
                rotate_left
                · intro hJ1_3_4
                  refine join_ (σ := Value × Value × Nat) 3 #[true, true, true, true, false, false, true, false] (fun s_ => [(16, .agg #[.bool t686, s_.1]), (18, .agg #[.bool t690, s_.2.1]), (5, .pointer (some ⟨s_.2.2, 0, none⟩))]) (fun s_ w' => (w'.cell? ⟨gb682, 0, none⟩ = some (.int .i64 a0_0) ∧ w'.cell? ⟨gb682, 1, none⟩ = some (.int .i64 a0_1) ∧ w'.cell? ⟨gb683, 0, none⟩ = some (.int .i64 a1_0) ∧ w'.cell? ⟨gb683, 1, none⟩ = some (.int .i64 a1_1)) ∧ (Kd.R (Kd.int .u64) 52 w' w.heap.size (fun k_ => some k_ ≠ (s_.2.1 : Value).ownBlock) s_.1 t687) ∧ (Kd.R (Kd.int .u64) 52 w' w.heap.size (fun k_ => some k_ ≠ (s_.1 : Value).ownBlock) s_.2.1 t691) ∧ (w'.heap[gb682]? = some (.cells #[.int .i64 a0_0, .int .i64 a0_1] 23 (0, 0))) ∧ (w'.heap[gb683]? = some (.cells #[.int .i64 a1_0, .int .i64 a1_1] 23 (0, 0))) ∧ (w'.heap[s_.2.2]? = some (.cells #[.bool false, .slice none 0 0] 60 (0, 0))) ∧ (w.heap.size ≤ s_.2.2) ∧ (w.heap.size ≤ s_.2.2) ∧ (gb682 ≠ s_.2.2) ∧ (s_.2.2 ≠ gb682) ∧ (gb683 ≠ s_.2.2) ∧ (s_.2.2 ≠ gb683) ∧ (Below w.heap.size w w')) ?_ ?_
                  rotate_left
                  · intro hJ1_3_6
                    refine join_ (σ := Value × Value) 4 #[true, true, true, true, false, false, false, false] (fun s_ => [(16, .agg #[.bool t686, s_.1]), (18, .agg #[.bool t690, s_.2])]) (fun s_ w' => (w'.cell? ⟨gb682, 0, none⟩ = some (.int .i64 a0_0) ∧ w'.cell? ⟨gb682, 1, none⟩ = some (.int .i64 a0_1) ∧ w'.cell? ⟨gb683, 0, none⟩ = some (.int .i64 a1_0) ∧ w'.cell? ⟨gb683, 1, none⟩ = some (.int .i64 a1_1)) ∧ (Kd.R (Kd.int .u64) 52 w' w.heap.size (fun k_ => some k_ ≠ (s_.2 : Value).ownBlock) s_.1 t687) ∧ (Kd.R (Kd.int .u64) 52 w' w.heap.size (fun k_ => some k_ ≠ (s_.1 : Value).ownBlock) s_.2 t691) ∧ (w'.heap[gb682]? = some (.cells #[.int .i64 a0_0, .int .i64 a0_1] 23 (0, 0))) ∧ (w'.heap[gb683]? = some (.cells #[.int .i64 a1_0, .int .i64 a1_1] 23 (0, 0))) ∧ (Below w.heap.size w w')) ?_ ?_
                    rotate_left
                    · intro hJ1_3
                      refine join_ (σ := Value × Nat) 4 #[true, true, true, false, false, false, true, false] (fun s_ => [(16, .agg #[.bool t686, s_.1]), (5, .pointer (some ⟨s_.2, 0, none⟩))]) (fun s_ w' => (w'.cell? ⟨gb682, 0, none⟩ = some (.int .i64 a0_0) ∧ w'.cell? ⟨gb682, 1, none⟩ = some (.int .i64 a0_1) ∧ w'.cell? ⟨gb683, 0, none⟩ = some (.int .i64 a1_0) ∧ w'.cell? ⟨gb683, 1, none⟩ = some (.int .i64 a1_1)) ∧ (Kd.R (Kd.int .u64) 52 w' w.heap.size (fun _ => True) s_.1 t687) ∧ (w'.heap[gb682]? = some (.cells #[.int .i64 a0_0, .int .i64 a0_1] 23 (0, 0))) ∧ (w'.heap[gb683]? = some (.cells #[.int .i64 a1_0, .int .i64 a1_1] 23 (0, 0))) ∧ (w'.heap[s_.2]? = some (.cells #[.bool false, .slice none 0 0] 60 (0, 0))) ∧ (w.heap.size ≤ s_.2) ∧ (w.heap.size ≤ s_.2) ∧ (gb682 ≠ s_.2) ∧ (s_.2 ≠ gb682) ∧ (gb683 ≠ s_.2) ∧ (s_.2 ≠ gb683) ∧ (Below w.heap.size w w')) ?_ ?_
                      rotate_left
                      · intro hJ1_6
                        refine join_ (σ := Value) 5 #[true, true, true, false, false, false, false, false] (fun s_ => [(16, .agg #[.bool t686, s_])]) (fun s_ w' => (w'.cell? ⟨gb682, 0, none⟩ = some (.int .i64 a0_0) ∧ w'.cell? ⟨gb682, 1, none⟩ = some (.int .i64 a0_1) ∧ w'.cell? ⟨gb683, 0, none⟩ = some (.int .i64 a1_0) ∧ w'.cell? ⟨gb683, 1, none⟩ = some (.int .i64 a1_1)) ∧ (Kd.R (Kd.int .u64) 52 w' w.heap.size (fun _ => True) s_ t687) ∧ (w'.heap[gb682]? = some (.cells #[.int .i64 a0_0, .int .i64 a0_1] 23 (0, 0))) ∧ (w'.heap[gb683]? = some (.cells #[.int .i64 a1_0, .int .i64 a1_1] 23 (0, 0))) ∧ (Below w.heap.size w w')) ?_ ?_
                        rotate_left
                        · intro hJ1
                          refine join_ (σ := Nat) 5 #[true, false, true, false, false, false, true, false] (fun s_ => [(5, .pointer (some ⟨s_, 0, none⟩))]) (fun s_ w' => (w'.cell? ⟨gb682, 0, none⟩ = some (.int .i64 a0_0) ∧ w'.cell? ⟨gb682, 1, none⟩ = some (.int .i64 a0_1) ∧ w'.cell? ⟨gb683, 0, none⟩ = some (.int .i64 a1_0) ∧ w'.cell? ⟨gb683, 1, none⟩ = some (.int .i64 a1_1)) ∧ (w'.heap[gb682]? = some (.cells #[.int .i64 a0_0, .int .i64 a0_1] 23 (0, 0))) ∧ (w'.heap[gb683]? = some (.cells #[.int .i64 a1_0, .int .i64 a1_1] 23 (0, 0))) ∧ (w'.heap[s_]? = some (.cells #[.bool false, .slice none 0 0] 60 (0, 0))) ∧ (w.heap.size ≤ s_) ∧ (w.heap.size ≤ s_) ∧ (gb682 ≠ s_) ∧ (s_ ≠ gb682) ∧ (gb683 ≠ s_) ∧ (s_ ≠ gb683) ∧ (Below w.heap.size w w')) ?_ ?_
                          rotate_left
                          · intro hJ6
                            refine two_ (i := 1) (j := 6) (Ni := some 16) (Nj := some 5) #[true, true, true, false, false, false, false, false] #[true, false, true, false, false, false, true, false] rfl rfl rfl rfl (two_of HT_.out (by kernel_rfl)) (by decide) (by decide) (fun K hK => ?_) (fun K hK => ?_)
                            · skip
                              refine goes_ Try.func46 (by kernel_rfl) rfl #[.agg #[.int .i64 a0_0, .int .i64 a0_1], .int .i64 9] (by rfl) rfl rfl (by (try simp only [List.map_toArray, List.map_cons, List.map_nil]); first | done | rfl | (simp only [List.length_drop, List.length_take]; rfl)) ?_
                              with_reducible refine (computusref04_at.calls kj2 a0_0 a0_1 9 t686 t687 _ A18.out).mono ?_
                              rintro e w24 ⟨v688, rfl, ho0, hb⟩
                              refine ⟨_, rfl, ?_⟩
                              have n0_ := Aside0.mk (Kd.R_lower ho0 (kK (by repeat (first | (with_reducible first | exact HB.out | apply kF | apply kB | apply kG | refine kA ?_ GE682.out | refine kA ?_ GE683.out) | exact HB.out))))
                              have n1_ := Aside0.mk (kI (g := gb682) (o := .cells #[.int .i64 a0_0, .int .i64 a0_1] 23 (0, 0)) (by (with_reducible repeat (first | refine kC ?_ _ | refine kE ?_ | refine kD ?_ _)); exact BK682.out) hb)
                              have n2_ := Aside0.mk (kI (g := gb683) (o := .cells #[.int .i64 a1_0, .int .i64 a1_1] 23 (0, 0)) (by (with_reducible repeat (first | refine kC ?_ _ | refine kE ?_ | refine kD ?_ _)); exact BK683.out) hb)
                              have n3_ := Aside0.mk (kL (by repeat (first | (with_reducible first | exact HB.out | apply kF | apply kB | apply kG | refine kA ?_ GE682.out | refine kA ?_ GE683.out) | exact HB.out)) hb)
                              clear BK682
                              clear BK683
                              clear HB
                              have HO689 := n0_
                              have BK682 := n1_
                              have BK683 := n2_
                              have HB := n3_
                              clear n0_ n1_ n2_ n3_
                              (try clear hb)
                              (try clear hb2)
                              (try clear hk)
                              (try clear hi)
                              (try clear ho0)
                              refine hK.out _ _ ⟨(kH BK682.out 0).trans rfl, (kH BK682.out 1).trans rfl, (kH BK683.out 0).trans rfl, (kH BK683.out 1).trans rfl⟩ (fun hHeld => ?_)
                              clear hK K
                              refine norm_ (a' := ?_) ?_ ?_
                              rotate_left
                              · show Act.put _ (some 16) _ = _
                                simp only [Act.put, List.setIfInBounds_toArray, List.set_cons_zero, List.set_cons_succ, i64_w, i32_w]
                                rfl
                              exact norm_ (by first | (simp only [putAll, Act.put, List.setIfInBounds_toArray, List.set_cons_zero, List.set_cons_succ]; done) | (simp only [putAll, Act.put, List.setIfInBounds_toArray, List.set_cons_zero, List.set_cons_succ]; rfl)) (hJ1 (v688) _ ⟨hHeld, (by (with_reducible repeat (first | apply Kd.R_alloc | apply Kd.R_drewN | apply Kd.R_drew)); exact HO689.out), (by (with_reducible repeat (first | refine kC ?_ _ | refine kE ?_ | refine kD ?_ _)); exact BK682.out), (by (with_reducible repeat (first | refine kC ?_ _ | refine kE ?_ | refine kD ?_ _)); exact BK683.out), (by repeat (first | (with_reducible first | exact HB.out | apply kF | apply kB | apply kG | refine kA ?_ GE682.out | refine kA ?_ GE683.out) | exact HB.out))⟩)
                            · skip
                              refine box_step ?hg (N := 5) ?hd (cs := #[.bool false, .slice none 0 0]) (t := 60) ?hr ?_; (case hd => rfl); (case hg => rfl); (case hr => first | (go_simp; done) | (go_simp; rfl))
                              intro gb702 hg w24 hbox hb
                              have n0_ := Aside0.mk (kI (g := gb682) (o := .cells #[.int .i64 a0_0, .int .i64 a0_1] 23 (0, 0)) (by (with_reducible repeat (first | refine kC ?_ _ | refine kE ?_ | refine kD ?_ _)); exact BK682.out) hb)
                              have n1_ := Aside0.mk (kI (g := gb683) (o := .cells #[.int .i64 a1_0, .int .i64 a1_1] 23 (0, 0)) (by (with_reducible repeat (first | refine kC ?_ _ | refine kE ?_ | refine kD ?_ _)); exact BK683.out) hb)
                              have n2_ := Aside0.mk (kL (by repeat (first | (with_reducible first | exact HB.out | apply kF | apply kB | apply kG | refine kA ?_ GE682.out | refine kA ?_ GE683.out) | exact HB.out)) hb)
                              have n3_ := Aside0.mk (hbox)
                              have n4_ := Aside0.mk ((by rw [hg]; exact (kK (by repeat (first | (with_reducible first | exact HB.out | apply kF | apply kB | apply kG | refine kA ?_ GE682.out | refine kA ?_ GE683.out) | exact HB.out))) : w.heap.size ≤ gb702))
                              have n5_ := Aside0.mk ((by rw [hg]; exact (kK (by repeat (first | (with_reducible first | exact HB.out | apply kF | apply kB | apply kG | refine kA ?_ GE682.out | refine kA ?_ GE683.out) | exact HB.out))) : w.heap.size ≤ gb702))
                              have n6_ := Aside0.mk ((by rw [hg]; exact Nat.ne_of_lt (kM (g := gb682) (o := .cells #[.int .i64 a0_0, .int .i64 a0_1] 23 (0, 0)) (by (with_reducible repeat (first | refine kC ?_ _ | refine kE ?_ | refine kD ?_ _)); exact BK682.out)) : gb682 ≠ gb702))
                              have n7_ := Aside0.mk ((by rw [hg]; exact Nat.ne_of_gt (kM (g := gb682) (o := .cells #[.int .i64 a0_0, .int .i64 a0_1] 23 (0, 0)) (by (with_reducible repeat (first | refine kC ?_ _ | refine kE ?_ | refine kD ?_ _)); exact BK682.out)) : gb702 ≠ gb682))
                              have n8_ := Aside0.mk ((by rw [hg]; exact Nat.ne_of_lt (kM (g := gb683) (o := .cells #[.int .i64 a1_0, .int .i64 a1_1] 23 (0, 0)) (by (with_reducible repeat (first | refine kC ?_ _ | refine kE ?_ | refine kD ?_ _)); exact BK683.out)) : gb683 ≠ gb702))
                              have n9_ := Aside0.mk ((by rw [hg]; exact Nat.ne_of_gt (kM (g := gb683) (o := .cells #[.int .i64 a1_0, .int .i64 a1_1] 23 (0, 0)) (by (with_reducible repeat (first | refine kC ?_ _ | refine kE ?_ | refine kD ?_ _)); exact BK683.out)) : gb702 ≠ gb683))
                              clear BK682
                              clear BK683
                              clear HB
                              have BK682 := n0_
                              have BK683 := n1_
                              have HB := n2_
                              have BK702 := n3_
                              have GW702 := n4_
                              have GE702 := n5_
                              have NB682_702 := n6_
                              have NB702_682 := n7_
                              have NB683_702 := n8_
                              have NB702_683 := n9_
                              clear n0_ n1_ n2_ n3_ n4_ n5_ n6_ n7_ n8_ n9_
                              clear hb hbox hg
                              refine hK.out _ _ ⟨(kH BK682.out 0).trans rfl, (kH BK682.out 1).trans rfl, (kH BK683.out 0).trans rfl, (kH BK683.out 1).trans rfl⟩ (fun hHeld => ?_)
                              clear hK K
                              refine norm_ (a' := ?_) ?_ ?_
                              rotate_left
                              · show Act.put _ (some 5) _ = _
                                simp only [Act.put, List.setIfInBounds_toArray, List.set_cons_zero, List.set_cons_succ, i64_w, i32_w]
                                rfl
                              exact norm_ (by first | (simp only [putAll, Act.put, List.setIfInBounds_toArray, List.set_cons_zero, List.set_cons_succ]; done) | (simp only [putAll, Act.put, List.setIfInBounds_toArray, List.set_cons_zero, List.set_cons_succ]; rfl)) (hJ6 (gb702) _ ⟨hHeld, (by (with_reducible repeat (first | refine kC ?_ _ | refine kE ?_ | refine kD ?_ _)); exact BK682.out), (by (with_reducible repeat (first | refine kC ?_ _ | refine kE ?_ | refine kD ?_ _)); exact BK683.out), (by (with_reducible repeat (first | refine kC ?_ _ | refine kE ?_ | refine kD ?_ _)); exact BK702.out), GW702.out, GE702.out, NB682_702.out, NB702_682.out, NB683_702.out, NB702_683.out, (by repeat (first | (with_reducible first | exact HB.out | apply kF | apply kB | apply kG | refine kA ?_ GE682.out | refine kA ?_ GE683.out | refine kA ?_ GE702.out) | exact HB.out))⟩)
                          · skip
                            rintro gb702 w25 ⟨hS_, h0_, h1_, h2_, h3_, h4_, h5_, h6_, h7_, h8_, h9_⟩
                            have n0_ : Aside0 (w25.heap[gb682]? = some (.cells #[.int .i64 a0_0, .int .i64 a0_1] 23 (0, 0))) := ⟨h0_⟩
                            have n1_ : Aside0 (w25.heap[gb683]? = some (.cells #[.int .i64 a1_0, .int .i64 a1_1] 23 (0, 0))) := ⟨h1_⟩
                            have n2_ : Aside0 (w25.heap[gb702]? = some (.cells #[.bool false, .slice none 0 0] 60 (0, 0))) := ⟨h2_⟩
                            have n3_ : Aside0 (w.heap.size ≤ gb702) := ⟨h3_⟩
                            have n4_ : Aside0 (w.heap.size ≤ gb702) := ⟨h4_⟩
                            have n5_ : Aside0 (gb682 ≠ gb702) := ⟨h5_⟩
                            have n6_ : Aside0 (gb702 ≠ gb682) := ⟨h6_⟩
                            have n7_ : Aside0 (gb683 ≠ gb702) := ⟨h7_⟩
                            have n8_ : Aside0 (gb702 ≠ gb683) := ⟨h8_⟩
                            have n9_ : Aside0 (Below w.heap.size w w25) := ⟨h9_⟩
                            clear BK682
                            clear BK683
                            clear HB
                            clear h0_ h1_ h2_ h3_ h4_ h5_ h6_ h7_ h8_ h9_
                            have BK682 := n0_
                            have BK683 := n1_
                            have BK702 := n2_
                            have GW702 := n3_
                            have GE702 := n4_
                            have NB682_702 := n5_
                            have NB702_682 := n6_
                            have NB683_702 := n7_
                            have NB702_683 := n8_
                            have HB := n9_
                            clear n0_ n1_ n2_ n3_ n4_ n5_ n6_ n7_ n8_ n9_
                            have hHeld : w25.cell? ⟨gb682, 0, none⟩ = some (.int .i64 a0_0) ∧ w25.cell? ⟨gb682, 1, none⟩ = some (.int .i64 a0_1) ∧ w25.cell? ⟨gb683, 0, none⟩ = some (.int .i64 a1_0) ∧ w25.cell? ⟨gb683, 1, none⟩ = some (.int .i64 a1_1) := hS_
                            refine norm_ (a' := ?_) ?_ ?_
                            rotate_left
                            · simp only [putAll, Act.put, List.setIfInBounds_toArray, List.set_cons_zero, List.set_cons_succ]
                              rfl
                            refine one_ (i := 1) (N := some 16) #[true, true, true, false, false, false, true, false] rfl rfl (one_of HT_.out (by kernel_rfl)) (by decide) (fun K hK => ?_)
                            refine goes_ Try.func46 (by kernel_rfl) rfl #[.agg #[.int .i64 a0_0, .int .i64 a0_1], .int .i64 9] (by rfl) rfl rfl (by (try simp only [List.map_toArray, List.map_cons, List.map_nil]); first | done | rfl | (simp only [List.length_drop, List.length_take]; rfl)) ?_
                            with_reducible refine (computusref04_at.calls kj2 a0_0 a0_1 9 t686 t687 _ A18.out).mono ?_
                            rintro e w26 ⟨v688, rfl, ho0, hb⟩
                            refine ⟨_, rfl, ?_⟩
                            have n0_ := Aside0.mk (Kd.R_lower ho0 (kK (by repeat (first | (with_reducible first | exact HB.out | apply kF | apply kB | apply kG | refine kA ?_ GE682.out | refine kA ?_ GE683.out | refine kA ?_ GE702.out) | exact HB.out))))
                            have n1_ := Aside0.mk (kI (g := gb682) (o := .cells #[.int .i64 a0_0, .int .i64 a0_1] 23 (0, 0)) (by (with_reducible repeat (first | refine kC ?_ _ | refine kE ?_ | refine kD ?_ _)); exact BK682.out) hb)
                            have n2_ := Aside0.mk (kI (g := gb683) (o := .cells #[.int .i64 a1_0, .int .i64 a1_1] 23 (0, 0)) (by (with_reducible repeat (first | refine kC ?_ _ | refine kE ?_ | refine kD ?_ _)); exact BK683.out) hb)
                            have n3_ := Aside0.mk (kI (g := gb702) (o := .cells #[.bool false, .slice none 0 0] 60 (0, 0)) (by (with_reducible repeat (first | refine kC ?_ _ | refine kE ?_ | refine kD ?_ _)); exact BK702.out) hb)
                            have n4_ := Aside0.mk (kL (by repeat (first | (with_reducible first | exact HB.out | apply kF | apply kB | apply kG | refine kA ?_ GE682.out | refine kA ?_ GE683.out | refine kA ?_ GE702.out) | exact HB.out)) hb)
                            clear BK682
                            clear BK683
                            clear BK702
                            clear HB
                            have HO689 := n0_
                            have BK682 := n1_
                            have BK683 := n2_
                            have BK702 := n3_
                            have HB := n4_
                            clear n0_ n1_ n2_ n3_ n4_
                            (try clear hb)
                            (try clear hb2)
                            (try clear hk)
                            (try clear hi)
                            (try clear ho0)
                            refine hK.out _ _ ⟨(kH BK682.out 0).trans rfl, (kH BK682.out 1).trans rfl, (kH BK683.out 0).trans rfl, (kH BK683.out 1).trans rfl⟩ (fun hHeld => ?_)
                            clear hK K
                            refine norm_ (a' := ?_) ?_ ?_
                            rotate_left
                            · show Act.put _ (some 16) _ = _
                              simp only [Act.put, List.setIfInBounds_toArray, List.set_cons_zero, List.set_cons_succ, i64_w, i32_w]
                              rfl
                            exact norm_ (by first | (simp only [putAll, Act.put, List.setIfInBounds_toArray, List.set_cons_zero, List.set_cons_succ]; done) | (simp only [putAll, Act.put, List.setIfInBounds_toArray, List.set_cons_zero, List.set_cons_succ]; rfl)) (hJ1_6 (v688, gb702) _ ⟨hHeld, (by (with_reducible repeat (first | apply Kd.R_alloc | apply Kd.R_drewN | apply Kd.R_drew)); exact HO689.out), (by (with_reducible repeat (first | refine kC ?_ _ | refine kE ?_ | refine kD ?_ _)); exact BK682.out), (by (with_reducible repeat (first | refine kC ?_ _ | refine kE ?_ | refine kD ?_ _)); exact BK683.out), (by (with_reducible repeat (first | refine kC ?_ _ | refine kE ?_ | refine kD ?_ _)); exact BK702.out), GW702.out, GE702.out, NB682_702.out, NB702_682.out, NB683_702.out, NB702_683.out, (by repeat (first | (with_reducible first | exact HB.out | apply kF | apply kB | apply kG | refine kA ?_ GE682.out | refine kA ?_ GE683.out | refine kA ?_ GE702.out) | exact HB.out))⟩)
                        · skip
                          rintro v688 w25 ⟨hS_, h0_, h1_, h2_, h3_⟩
                          have n0_ : Aside0 (Kd.R (Kd.int .u64) 52 w25 w.heap.size (fun _ => True) v688 t687) := ⟨h0_⟩
                          have n1_ : Aside0 (w25.heap[gb682]? = some (.cells #[.int .i64 a0_0, .int .i64 a0_1] 23 (0, 0))) := ⟨h1_⟩
                          have n2_ : Aside0 (w25.heap[gb683]? = some (.cells #[.int .i64 a1_0, .int .i64 a1_1] 23 (0, 0))) := ⟨h2_⟩
                          have n3_ : Aside0 (Below w.heap.size w w25) := ⟨h3_⟩
                          clear BK682
                          clear BK683
                          clear HB
                          clear h0_ h1_ h2_ h3_
                          have HO689 := n0_
                          have BK682 := n1_
                          have BK683 := n2_
                          have HB := n3_
                          clear n0_ n1_ n2_ n3_
                          have hHeld : w25.cell? ⟨gb682, 0, none⟩ = some (.int .i64 a0_0) ∧ w25.cell? ⟨gb682, 1, none⟩ = some (.int .i64 a0_1) ∧ w25.cell? ⟨gb683, 0, none⟩ = some (.int .i64 a1_0) ∧ w25.cell? ⟨gb683, 1, none⟩ = some (.int .i64 a1_1) := hS_
                          refine norm_ (a' := ?_) ?_ ?_
                          rotate_left
                          · simp only [putAll, Act.put, List.setIfInBounds_toArray, List.set_cons_zero, List.set_cons_succ]
                            rfl
                          refine two_ (i := 3) (j := 6) (Ni := some 18) (Nj := some 5) #[true, true, true, true, false, false, false, false] #[true, true, true, false, false, false, true, false] rfl rfl rfl rfl (two_of HT_.out (by kernel_rfl)) (by decide) (by decide) (fun K hK => ?_) (fun K hK => ?_)
                          · skip
                            refine goes_ Try.func46 (by kernel_rfl) rfl #[.agg #[.int .i64 a1_0, .int .i64 a1_1], .int .i64 9] (by rfl) rfl rfl (by (try simp only [List.map_toArray, List.map_cons, List.map_nil]); first | done | rfl | (simp only [List.length_drop, List.length_take]; rfl)) ?_
                            with_reducible refine (computusref04_at.calls kj2 a1_0 a1_1 9 t690 t691 _ A19.out).mono ?_
                            rintro e w26 ⟨v692, rfl, ho0, hb⟩
                            refine ⟨_, rfl, ?_⟩
                            have n0_ := Aside0.mk (Kd.R_elder' (by (with_reducible repeat (first | apply Kd.R_alloc | apply Kd.R_drewN | apply Kd.R_drew)); exact HO689.out) (Kd.R_base ho0) hb)
                            have n1_ := Aside0.mk (Kd.R_lower (Kd.R_new' ho0 (Kd.R_lt (by (with_reducible repeat (first | apply Kd.R_alloc | apply Kd.R_drewN | apply Kd.R_drew)); exact HO689.out))) (kK (by repeat (first | (with_reducible first | exact HB.out | apply kF | apply kB | apply kG | refine kA ?_ GE682.out | refine kA ?_ GE683.out) | exact HB.out))))
                            have n2_ := Aside0.mk (kI (g := gb682) (o := .cells #[.int .i64 a0_0, .int .i64 a0_1] 23 (0, 0)) (by (with_reducible repeat (first | refine kC ?_ _ | refine kE ?_ | refine kD ?_ _)); exact BK682.out) hb)
                            have n3_ := Aside0.mk (kI (g := gb683) (o := .cells #[.int .i64 a1_0, .int .i64 a1_1] 23 (0, 0)) (by (with_reducible repeat (first | refine kC ?_ _ | refine kE ?_ | refine kD ?_ _)); exact BK683.out) hb)
                            have n4_ := Aside0.mk (kL (by repeat (first | (with_reducible first | exact HB.out | apply kF | apply kB | apply kG | refine kA ?_ GE682.out | refine kA ?_ GE683.out) | exact HB.out)) hb)
                            clear HO689
                            clear BK682
                            clear BK683
                            clear HB
                            have HO689 := n0_
                            have HO693 := n1_
                            have BK682 := n2_
                            have BK683 := n3_
                            have HB := n4_
                            clear n0_ n1_ n2_ n3_ n4_
                            (try clear hb)
                            (try clear hb2)
                            (try clear hk)
                            (try clear hi)
                            (try clear ho0)
                            refine hK.out _ _ ⟨(kH BK682.out 0).trans rfl, (kH BK682.out 1).trans rfl, (kH BK683.out 0).trans rfl, (kH BK683.out 1).trans rfl⟩ (fun hHeld => ?_)
                            clear hK K
                            refine norm_ (a' := ?_) ?_ ?_
                            rotate_left
                            · show Act.put _ (some 18) _ = _
                              simp only [Act.put, List.setIfInBounds_toArray, List.set_cons_zero, List.set_cons_succ, i64_w, i32_w]
                              rfl
                            exact norm_ (by first | (simp only [putAll, Act.put, List.setIfInBounds_toArray, List.set_cons_zero, List.set_cons_succ]; done) | (simp only [putAll, Act.put, List.setIfInBounds_toArray, List.set_cons_zero, List.set_cons_succ]; rfl)) (hJ1_3 (v688, v692) _ ⟨hHeld, (by (with_reducible repeat (first | apply Kd.R_alloc | apply Kd.R_drewN | apply Kd.R_drew)); exact Kd.R_mono HO689.out (fun _ hk => hk.2)), (by (with_reducible repeat (first | apply Kd.R_alloc | apply Kd.R_drewN | apply Kd.R_drew)); exact Kd.R_mono HO693.out (fun _ hk => hk.2)), (by (with_reducible repeat (first | refine kC ?_ _ | refine kE ?_ | refine kD ?_ _)); exact BK682.out), (by (with_reducible repeat (first | refine kC ?_ _ | refine kE ?_ | refine kD ?_ _)); exact BK683.out), (by repeat (first | (with_reducible first | exact HB.out | apply kF | apply kB | apply kG | refine kA ?_ GE682.out | refine kA ?_ GE683.out) | exact HB.out))⟩)
                          · skip
                            refine box_step ?hg (N := 5) ?hd (cs := #[.bool false, .slice none 0 0]) (t := 60) ?hr ?_; (case hd => rfl); (case hg => rfl); (case hr => first | (go_simp; done) | (go_simp; rfl))
                            intro gb702 hg w26 hbox hb
                            have n0_ := Aside0.mk (Kd.R_below (by (with_reducible repeat (first | apply Kd.R_alloc | apply Kd.R_drewN | apply Kd.R_drew)); exact HO689.out) hb)
                            have n1_ := Aside0.mk (kI (g := gb682) (o := .cells #[.int .i64 a0_0, .int .i64 a0_1] 23 (0, 0)) (by (with_reducible repeat (first | refine kC ?_ _ | refine kE ?_ | refine kD ?_ _)); exact BK682.out) hb)
                            have n2_ := Aside0.mk (kI (g := gb683) (o := .cells #[.int .i64 a1_0, .int .i64 a1_1] 23 (0, 0)) (by (with_reducible repeat (first | refine kC ?_ _ | refine kE ?_ | refine kD ?_ _)); exact BK683.out) hb)
                            have n3_ := Aside0.mk (kL (by repeat (first | (with_reducible first | exact HB.out | apply kF | apply kB | apply kG | refine kA ?_ GE682.out | refine kA ?_ GE683.out) | exact HB.out)) hb)
                            have n4_ := Aside0.mk (hbox)
                            have n5_ := Aside0.mk ((by rw [hg]; exact (kK (by repeat (first | (with_reducible first | exact HB.out | apply kF | apply kB | apply kG | refine kA ?_ GE682.out | refine kA ?_ GE683.out) | exact HB.out))) : w.heap.size ≤ gb702))
                            have n6_ := Aside0.mk ((by rw [hg]; exact (kK (by repeat (first | (with_reducible first | exact HB.out | apply kF | apply kB | apply kG | refine kA ?_ GE682.out | refine kA ?_ GE683.out) | exact HB.out))) : w.heap.size ≤ gb702))
                            have n7_ := Aside0.mk ((by rw [hg]; exact Nat.ne_of_lt (kM (g := gb682) (o := .cells #[.int .i64 a0_0, .int .i64 a0_1] 23 (0, 0)) (by (with_reducible repeat (first | refine kC ?_ _ | refine kE ?_ | refine kD ?_ _)); exact BK682.out)) : gb682 ≠ gb702))
                            have n8_ := Aside0.mk ((by rw [hg]; exact Nat.ne_of_gt (kM (g := gb682) (o := .cells #[.int .i64 a0_0, .int .i64 a0_1] 23 (0, 0)) (by (with_reducible repeat (first | refine kC ?_ _ | refine kE ?_ | refine kD ?_ _)); exact BK682.out)) : gb702 ≠ gb682))
                            have n9_ := Aside0.mk ((by rw [hg]; exact Nat.ne_of_lt (kM (g := gb683) (o := .cells #[.int .i64 a1_0, .int .i64 a1_1] 23 (0, 0)) (by (with_reducible repeat (first | refine kC ?_ _ | refine kE ?_ | refine kD ?_ _)); exact BK683.out)) : gb683 ≠ gb702))
                            have n10_ := Aside0.mk ((by rw [hg]; exact Nat.ne_of_gt (kM (g := gb683) (o := .cells #[.int .i64 a1_0, .int .i64 a1_1] 23 (0, 0)) (by (with_reducible repeat (first | refine kC ?_ _ | refine kE ?_ | refine kD ?_ _)); exact BK683.out)) : gb702 ≠ gb683))
                            clear HO689
                            clear BK682
                            clear BK683
                            clear HB
                            have HO689 := n0_
                            have BK682 := n1_
                            have BK683 := n2_
                            have HB := n3_
                            have BK702 := n4_
                            have GW702 := n5_
                            have GE702 := n6_
                            have NB682_702 := n7_
                            have NB702_682 := n8_
                            have NB683_702 := n9_
                            have NB702_683 := n10_
                            clear n0_ n1_ n2_ n3_ n4_ n5_ n6_ n7_ n8_ n9_ n10_
                            clear hb hbox hg
                            refine hK.out _ _ ⟨(kH BK682.out 0).trans rfl, (kH BK682.out 1).trans rfl, (kH BK683.out 0).trans rfl, (kH BK683.out 1).trans rfl⟩ (fun hHeld => ?_)
                            clear hK K
                            refine norm_ (a' := ?_) ?_ ?_
                            rotate_left
                            · show Act.put _ (some 5) _ = _
                              simp only [Act.put, List.setIfInBounds_toArray, List.set_cons_zero, List.set_cons_succ, i64_w, i32_w]
                              rfl
                            exact norm_ (by first | (simp only [putAll, Act.put, List.setIfInBounds_toArray, List.set_cons_zero, List.set_cons_succ]; done) | (simp only [putAll, Act.put, List.setIfInBounds_toArray, List.set_cons_zero, List.set_cons_succ]; rfl)) (hJ1_6 (v688, gb702) _ ⟨hHeld, (by (with_reducible repeat (first | apply Kd.R_alloc | apply Kd.R_drewN | apply Kd.R_drew)); exact HO689.out), (by (with_reducible repeat (first | refine kC ?_ _ | refine kE ?_ | refine kD ?_ _)); exact BK682.out), (by (with_reducible repeat (first | refine kC ?_ _ | refine kE ?_ | refine kD ?_ _)); exact BK683.out), (by (with_reducible repeat (first | refine kC ?_ _ | refine kE ?_ | refine kD ?_ _)); exact BK702.out), GW702.out, GE702.out, NB682_702.out, NB702_682.out, NB683_702.out, NB702_683.out, (by repeat (first | (with_reducible first | exact HB.out | apply kF | apply kB | apply kG | refine kA ?_ GE682.out | refine kA ?_ GE683.out | refine kA ?_ GE702.out) | exact HB.out))⟩)
                      · skip
                        rintro ⟨v688, gb702⟩ w26 ⟨hS_, h0_, h1_, h2_, h3_, h4_, h5_, h6_, h7_, h8_, h9_, h10_⟩
                        have n0_ : Aside0 (Kd.R (Kd.int .u64) 52 w26 w.heap.size (fun _ => True) v688 t687) := ⟨h0_⟩
                        have n1_ : Aside0 (w26.heap[gb682]? = some (.cells #[.int .i64 a0_0, .int .i64 a0_1] 23 (0, 0))) := ⟨h1_⟩
                        have n2_ : Aside0 (w26.heap[gb683]? = some (.cells #[.int .i64 a1_0, .int .i64 a1_1] 23 (0, 0))) := ⟨h2_⟩
                        have n3_ : Aside0 (w26.heap[gb702]? = some (.cells #[.bool false, .slice none 0 0] 60 (0, 0))) := ⟨h3_⟩
                        have n4_ : Aside0 (w.heap.size ≤ gb702) := ⟨h4_⟩
                        have n5_ : Aside0 (w.heap.size ≤ gb702) := ⟨h5_⟩
                        have n6_ : Aside0 (gb682 ≠ gb702) := ⟨h6_⟩
                        have n7_ : Aside0 (gb702 ≠ gb682) := ⟨h7_⟩
                        have n8_ : Aside0 (gb683 ≠ gb702) := ⟨h8_⟩
                        have n9_ : Aside0 (gb702 ≠ gb683) := ⟨h9_⟩
                        have n10_ : Aside0 (Below w.heap.size w w26) := ⟨h10_⟩
                        clear BK682
                        clear BK683
                        clear HB
                        clear h0_ h1_ h2_ h3_ h4_ h5_ h6_ h7_ h8_ h9_ h10_
                        have HO689 := n0_
                        have BK682 := n1_
                        have BK683 := n2_
                        have BK702 := n3_
                        have GW702 := n4_
                        have GE702 := n5_
                        have NB682_702 := n6_
                        have NB702_682 := n7_
                        have NB683_702 := n8_
                        have NB702_683 := n9_
                        have HB := n10_
                        clear n0_ n1_ n2_ n3_ n4_ n5_ n6_ n7_ n8_ n9_ n10_
                        have hHeld : w26.cell? ⟨gb682, 0, none⟩ = some (.int .i64 a0_0) ∧ w26.cell? ⟨gb682, 1, none⟩ = some (.int .i64 a0_1) ∧ w26.cell? ⟨gb683, 0, none⟩ = some (.int .i64 a1_0) ∧ w26.cell? ⟨gb683, 1, none⟩ = some (.int .i64 a1_1) := hS_
                        refine norm_ (a' := ?_) ?_ ?_
                        rotate_left
                        · simp only [putAll, Act.put, List.setIfInBounds_toArray, List.set_cons_zero, List.set_cons_succ]
                          rfl
                        refine one_ (i := 3) (N := some 18) #[true, true, true, true, false, false, true, false] rfl rfl (one_of HT_.out (by kernel_rfl)) (by decide) (fun K hK => ?_)
                        refine goes_ Try.func46 (by kernel_rfl) rfl #[.agg #[.int .i64 a1_0, .int .i64 a1_1], .int .i64 9] (by rfl) rfl rfl (by (try simp only [List.map_toArray, List.map_cons, List.map_nil]); first | done | rfl | (simp only [List.length_drop, List.length_take]; rfl)) ?_
                        with_reducible refine (computusref04_at.calls kj2 a1_0 a1_1 9 t690 t691 _ A19.out).mono ?_
                        rintro e w27 ⟨v692, rfl, ho0, hb⟩
                        refine ⟨_, rfl, ?_⟩
                        have n0_ := Aside0.mk (Kd.R_elder' (by (with_reducible repeat (first | apply Kd.R_alloc | apply Kd.R_drewN | apply Kd.R_drew)); exact HO689.out) (Kd.R_base ho0) hb)
                        have n1_ := Aside0.mk (Kd.R_lower (Kd.R_new' ho0 (Kd.R_lt (by (with_reducible repeat (first | apply Kd.R_alloc | apply Kd.R_drewN | apply Kd.R_drew)); exact HO689.out))) (kK (by repeat (first | (with_reducible first | exact HB.out | apply kF | apply kB | apply kG | refine kA ?_ GE682.out | refine kA ?_ GE683.out | refine kA ?_ GE702.out) | exact HB.out))))
                        have n2_ := Aside0.mk (kI (g := gb682) (o := .cells #[.int .i64 a0_0, .int .i64 a0_1] 23 (0, 0)) (by (with_reducible repeat (first | refine kC ?_ _ | refine kE ?_ | refine kD ?_ _)); exact BK682.out) hb)
                        have n3_ := Aside0.mk (kI (g := gb683) (o := .cells #[.int .i64 a1_0, .int .i64 a1_1] 23 (0, 0)) (by (with_reducible repeat (first | refine kC ?_ _ | refine kE ?_ | refine kD ?_ _)); exact BK683.out) hb)
                        have n4_ := Aside0.mk (kI (g := gb702) (o := .cells #[.bool false, .slice none 0 0] 60 (0, 0)) (by (with_reducible repeat (first | refine kC ?_ _ | refine kE ?_ | refine kD ?_ _)); exact BK702.out) hb)
                        have n5_ := Aside0.mk (kL (by repeat (first | (with_reducible first | exact HB.out | apply kF | apply kB | apply kG | refine kA ?_ GE682.out | refine kA ?_ GE683.out | refine kA ?_ GE702.out) | exact HB.out)) hb)
                        clear HO689
                        clear BK682
                        clear BK683
                        clear BK702
                        clear HB
                        have HO689 := n0_
                        have HO693 := n1_
                        have BK682 := n2_
                        have BK683 := n3_
                        have BK702 := n4_
                        have HB := n5_
                        clear n0_ n1_ n2_ n3_ n4_ n5_
                        (try clear hb)
                        (try clear hb2)
                        (try clear hk)
                        (try clear hi)
                        (try clear ho0)
                        refine hK.out _ _ ⟨(kH BK682.out 0).trans rfl, (kH BK682.out 1).trans rfl, (kH BK683.out 0).trans rfl, (kH BK683.out 1).trans rfl⟩ (fun hHeld => ?_)
                        clear hK K
                        refine norm_ (a' := ?_) ?_ ?_
                        rotate_left
                        · show Act.put _ (some 18) _ = _
                          simp only [Act.put, List.setIfInBounds_toArray, List.set_cons_zero, List.set_cons_succ, i64_w, i32_w]
                          rfl
                        exact norm_ (by first | (simp only [putAll, Act.put, List.setIfInBounds_toArray, List.set_cons_zero, List.set_cons_succ]; done) | (simp only [putAll, Act.put, List.setIfInBounds_toArray, List.set_cons_zero, List.set_cons_succ]; rfl)) (hJ1_3_6 (v688, v692, gb702) _ ⟨hHeld, (by (with_reducible repeat (first | apply Kd.R_alloc | apply Kd.R_drewN | apply Kd.R_drew)); exact Kd.R_mono HO689.out (fun _ hk => hk.2)), (by (with_reducible repeat (first | apply Kd.R_alloc | apply Kd.R_drewN | apply Kd.R_drew)); exact Kd.R_mono HO693.out (fun _ hk => hk.2)), (by (with_reducible repeat (first | refine kC ?_ _ | refine kE ?_ | refine kD ?_ _)); exact BK682.out), (by (with_reducible repeat (first | refine kC ?_ _ | refine kE ?_ | refine kD ?_ _)); exact BK683.out), (by (with_reducible repeat (first | refine kC ?_ _ | refine kE ?_ | refine kD ?_ _)); exact BK702.out), GW702.out, GE702.out, NB682_702.out, NB702_682.out, NB683_702.out, NB702_683.out, (by repeat (first | (with_reducible first | exact HB.out | apply kF | apply kB | apply kG | refine kA ?_ GE682.out | refine kA ?_ GE683.out | refine kA ?_ GE702.out) | exact HB.out))⟩)
                    · skip
                      rintro ⟨v688, v692⟩ w26 ⟨hS_, h0_, h1_, h2_, h3_, h4_⟩
                      have n0_ : Aside0 (Kd.R (Kd.int .u64) 52 w26 w.heap.size (fun k_ => some k_ ≠ (v692 : Value).ownBlock) v688 t687) := ⟨h0_⟩
                      have n1_ : Aside0 (Kd.R (Kd.int .u64) 52 w26 w.heap.size (fun k_ => some k_ ≠ (v688 : Value).ownBlock) v692 t691) := ⟨h1_⟩
                      have n2_ : Aside0 (w26.heap[gb682]? = some (.cells #[.int .i64 a0_0, .int .i64 a0_1] 23 (0, 0))) := ⟨h2_⟩
                      have n3_ : Aside0 (w26.heap[gb683]? = some (.cells #[.int .i64 a1_0, .int .i64 a1_1] 23 (0, 0))) := ⟨h3_⟩
                      have n4_ : Aside0 (Below w.heap.size w w26) := ⟨h4_⟩
                      clear BK682
                      clear BK683
                      clear HB
                      clear h0_ h1_ h2_ h3_ h4_
                      have HO689 := n0_
                      have HO693 := n1_
                      have BK682 := n2_
                      have BK683 := n3_
                      have HB := n4_
                      clear n0_ n1_ n2_ n3_ n4_
                      have hHeld : w26.cell? ⟨gb682, 0, none⟩ = some (.int .i64 a0_0) ∧ w26.cell? ⟨gb682, 1, none⟩ = some (.int .i64 a0_1) ∧ w26.cell? ⟨gb683, 0, none⟩ = some (.int .i64 a1_0) ∧ w26.cell? ⟨gb683, 1, none⟩ = some (.int .i64 a1_1) := hS_
                      obtain ⟨Ao27, co27, eo27⟩ := Kd.R_slice HO693.out
                      (first | subst eo27 | (injection eo27 with f1_ f2_ f3_; have f4_ := f1_.symm; have f5_ := f3_.symm; clear f1_ f2_ f3_; subst f4_; subst f5_))
                      refine norm_ (a' := ?_) ?_ ?_
                      rotate_left
                      · simp only [putAll, Act.put, List.setIfInBounds_toArray, List.set_cons_zero, List.set_cons_succ]
                        rfl
                      refine two_ (i := 4) (j := 6) (Ni := some 19) (Nj := some 5) #[true, true, true, true, true, false, false, false] #[true, true, true, true, false, false, true, false] rfl rfl rfl rfl (two_of HT_.out (by kernel_rfl)) (by decide) (by decide) (fun K hK => ?_) (fun K hK => ?_)
                      · skip
                        refine goes_ Try.func39 (by kernel_rfl) rfl #[.agg #[.bool t690, .slice Ao27 t691.length co27]] (by rfl) rfl rfl (by (try simp only [List.map_toArray, List.map_cons, List.map_nil]); first | done | rfl | (simp only [List.length_drop, List.length_take]; rfl)) ?_
                        with_reducible refine (computusref01_Minus.calls kj2 t690 (fun k_ => some k_ = (.slice Ao27 t691.length co27 : Value).ownBlock) (.slice Ao27 t691.length co27) t691 t694 t695 w _ ?side1 ?side2 A20.out).mono ?_
                        (case side1 => repeat (first | (with_reducible first | exact HB.out | apply kF | apply kB | apply kG | refine kA ?_ GE682.out | refine kA ?_ GE683.out) | exact HB.out))
                        (case side2 => exact Kd.R_tight rfl HO693.out)
                        rintro e w28 ⟨v696, rfl, ho0, hb, hkp⟩
                        refine ⟨_, rfl, ?_⟩
                        have n0_ := Aside0.mk (blk_kept (by (with_reducible repeat (first | refine kC ?_ _ | refine kE ?_ | refine kD ?_ _)); exact BK682.out) hkp (fun hs_ => (fun e_ => (Kd.R_ne HO693.out BK682.out (by decide)) e_) hs_))
                        have n1_ := Aside0.mk (blk_kept (by (with_reducible repeat (first | refine kC ?_ _ | refine kE ?_ | refine kD ?_ _)); exact BK683.out) hkp (fun hs_ => (fun e_ => (Kd.R_ne HO693.out BK683.out (by decide)) e_) hs_))
                        have n2_ := Aside0.mk (Kd.R_mono (ok' := fun k_ => some k_ ≠ (v696 : Value).ownBlock) (Kd.R_keptB (HO689.out) hkp (fun k_ hk_ hs_ => (hk_) hs_)) (fun k_ hk_ => fun e_ => Or.elim (ho0.1 k_ e_.symm) (fun hs_ => hk_.2.1 hs_) (fun hn_ => Nat.not_le.2 hk_.2.2 hn_)))
                        have n3_ := Aside0.mk (Kd.R_mono (ok' := fun k_ => some k_ ≠ (v688 : Value).ownBlock) ho0 (fun k_ hk_ => Or.elim hk_ (fun hs_ => fun e_ => (((HO689.out).1 k_ e_.symm)) hs_) (fun hn_ => (Kd.fresh' (Kd.R_lt (by (with_reducible repeat (first | apply Kd.R_alloc | apply Kd.R_drewN | apply Kd.R_drew)); exact HO689.out)) k_ hn_))))
                        have n4_ := Aside0.mk (hb)
                        clear BK682
                        clear BK683
                        clear HO689
                        clear HB
                        clear HO693
                        have BK682 := n0_
                        have BK683 := n1_
                        have HO689 := n2_
                        have HO697 := n3_
                        have HB := n4_
                        clear n0_ n1_ n2_ n3_ n4_
                        (try clear hb)
                        (try clear hkp)
                        (try clear ho0)
                        refine hK.out _ _ ⟨(kH BK682.out 0).trans rfl, (kH BK682.out 1).trans rfl, (kH BK683.out 0).trans rfl, (kH BK683.out 1).trans rfl⟩ (fun hHeld => ?_)
                        clear hK K
                        refine norm_ (a' := ?_) ?_ ?_
                        rotate_left
                        · show Act.put _ (some 19) _ = _
                          simp only [Act.put, List.setIfInBounds_toArray, List.set_cons_zero, List.set_cons_succ, i64_w, i32_w]
                          rfl
                        exact norm_ (by first | (simp only [putAll, Act.put, List.setIfInBounds_toArray, List.set_cons_zero, List.set_cons_succ]; done) | (simp only [putAll, Act.put, List.setIfInBounds_toArray, List.set_cons_zero, List.set_cons_succ]; rfl)) (hJ1_3_4 (v688, .slice Ao27 t691.length co27, v696) _ ⟨hHeld, (by (with_reducible repeat (first | apply Kd.R_alloc | apply Kd.R_drewN | apply Kd.R_drew)); exact HO689.out), (by (with_reducible repeat (first | apply Kd.R_alloc | apply Kd.R_drewN | apply Kd.R_drew)); exact HO697.out), (by (with_reducible repeat (first | refine kC ?_ _ | refine kE ?_ | refine kD ?_ _)); exact BK682.out), (by (with_reducible repeat (first | refine kC ?_ _ | refine kE ?_ | refine kD ?_ _)); exact BK683.out), (by repeat (first | (with_reducible first | exact HB.out | apply kF | apply kB | apply kG | refine kA ?_ GE682.out | refine kA ?_ GE683.out) | exact HB.out))⟩)
                      · skip
                        refine box_step ?hg (N := 5) ?hd (cs := #[.bool false, .slice none 0 0]) (t := 60) ?hr ?_; (case hd => rfl); (case hg => rfl); (case hr => first | (go_simp; done) | (go_simp; rfl))
                        intro gb702 hg w27 hbox hb
                        have n0_ := Aside0.mk (Kd.R_below (by (with_reducible repeat (first | apply Kd.R_alloc | apply Kd.R_drewN | apply Kd.R_drew)); exact HO689.out) hb)
                        have n1_ := Aside0.mk (Kd.R_below (by (with_reducible repeat (first | apply Kd.R_alloc | apply Kd.R_drewN | apply Kd.R_drew)); exact HO693.out) hb)
                        have n2_ := Aside0.mk (kI (g := gb682) (o := .cells #[.int .i64 a0_0, .int .i64 a0_1] 23 (0, 0)) (by (with_reducible repeat (first | refine kC ?_ _ | refine kE ?_ | refine kD ?_ _)); exact BK682.out) hb)
                        have n3_ := Aside0.mk (kI (g := gb683) (o := .cells #[.int .i64 a1_0, .int .i64 a1_1] 23 (0, 0)) (by (with_reducible repeat (first | refine kC ?_ _ | refine kE ?_ | refine kD ?_ _)); exact BK683.out) hb)
                        have n4_ := Aside0.mk (kL (by repeat (first | (with_reducible first | exact HB.out | apply kF | apply kB | apply kG | refine kA ?_ GE682.out | refine kA ?_ GE683.out) | exact HB.out)) hb)
                        have n5_ := Aside0.mk (hbox)
                        have n6_ := Aside0.mk ((by rw [hg]; exact (kK (by repeat (first | (with_reducible first | exact HB.out | apply kF | apply kB | apply kG | refine kA ?_ GE682.out | refine kA ?_ GE683.out) | exact HB.out))) : w.heap.size ≤ gb702))
                        have n7_ := Aside0.mk ((by rw [hg]; exact (kK (by repeat (first | (with_reducible first | exact HB.out | apply kF | apply kB | apply kG | refine kA ?_ GE682.out | refine kA ?_ GE683.out) | exact HB.out))) : w.heap.size ≤ gb702))
                        have n8_ := Aside0.mk ((by rw [hg]; exact Nat.ne_of_lt (kM (g := gb682) (o := .cells #[.int .i64 a0_0, .int .i64 a0_1] 23 (0, 0)) (by (with_reducible repeat (first | refine kC ?_ _ | refine kE ?_ | refine kD ?_ _)); exact BK682.out)) : gb682 ≠ gb702))
                        have n9_ := Aside0.mk ((by rw [hg]; exact Nat.ne_of_gt (kM (g := gb682) (o := .cells #[.int .i64 a0_0, .int .i64 a0_1] 23 (0, 0)) (by (with_reducible repeat (first | refine kC ?_ _ | refine kE ?_ | refine kD ?_ _)); exact BK682.out)) : gb702 ≠ gb682))
                        have n10_ := Aside0.mk ((by rw [hg]; exact Nat.ne_of_lt (kM (g := gb683) (o := .cells #[.int .i64 a1_0, .int .i64 a1_1] 23 (0, 0)) (by (with_reducible repeat (first | refine kC ?_ _ | refine kE ?_ | refine kD ?_ _)); exact BK683.out)) : gb683 ≠ gb702))
                        have n11_ := Aside0.mk ((by rw [hg]; exact Nat.ne_of_gt (kM (g := gb683) (o := .cells #[.int .i64 a1_0, .int .i64 a1_1] 23 (0, 0)) (by (with_reducible repeat (first | refine kC ?_ _ | refine kE ?_ | refine kD ?_ _)); exact BK683.out)) : gb702 ≠ gb683))
                        clear HO689
                        clear HO693
                        clear BK682
                        clear BK683
                        clear HB
                        have HO689 := n0_
                        have HO693 := n1_
                        have BK682 := n2_
                        have BK683 := n3_
                        have HB := n4_
                        have BK702 := n5_
                        have GW702 := n6_
                        have GE702 := n7_
                        have NB682_702 := n8_
                        have NB702_682 := n9_
                        have NB683_702 := n10_
                        have NB702_683 := n11_
                        clear n0_ n1_ n2_ n3_ n4_ n5_ n6_ n7_ n8_ n9_ n10_ n11_
                        clear hb hbox hg
                        refine hK.out _ _ ⟨(kH BK682.out 0).trans rfl, (kH BK682.out 1).trans rfl, (kH BK683.out 0).trans rfl, (kH BK683.out 1).trans rfl⟩ (fun hHeld => ?_)
                        clear hK K
                        refine norm_ (a' := ?_) ?_ ?_
                        rotate_left
                        · show Act.put _ (some 5) _ = _
                          simp only [Act.put, List.setIfInBounds_toArray, List.set_cons_zero, List.set_cons_succ, i64_w, i32_w]
                          rfl
                        exact norm_ (by first | (simp only [putAll, Act.put, List.setIfInBounds_toArray, List.set_cons_zero, List.set_cons_succ]; done) | (simp only [putAll, Act.put, List.setIfInBounds_toArray, List.set_cons_zero, List.set_cons_succ]; rfl)) (hJ1_3_6 (v688, (.slice Ao27 t691.length co27), gb702) _ ⟨hHeld, (by (with_reducible repeat (first | apply Kd.R_alloc | apply Kd.R_drewN | apply Kd.R_drew)); exact HO689.out), (by (with_reducible repeat (first | apply Kd.R_alloc | apply Kd.R_drewN | apply Kd.R_drew)); exact HO693.out), (by (with_reducible repeat (first | refine kC ?_ _ | refine kE ?_ | refine kD ?_ _)); exact BK682.out), (by (with_reducible repeat (first | refine kC ?_ _ | refine kE ?_ | refine kD ?_ _)); exact BK683.out), (by (with_reducible repeat (first | refine kC ?_ _ | refine kE ?_ | refine kD ?_ _)); exact BK702.out), GW702.out, GE702.out, NB682_702.out, NB702_682.out, NB683_702.out, NB702_683.out, (by repeat (first | (with_reducible first | exact HB.out | apply kF | apply kB | apply kG | refine kA ?_ GE682.out | refine kA ?_ GE683.out | refine kA ?_ GE702.out) | exact HB.out))⟩)
                  · skip
                    rintro ⟨v688, v692, gb702⟩ w27 ⟨hS_, h0_, h1_, h2_, h3_, h4_, h5_, h6_, h7_, h8_, h9_, h10_, h11_⟩
                    have n0_ : Aside0 (Kd.R (Kd.int .u64) 52 w27 w.heap.size (fun k_ => some k_ ≠ (v692 : Value).ownBlock) v688 t687) := ⟨h0_⟩
                    have n1_ : Aside0 (Kd.R (Kd.int .u64) 52 w27 w.heap.size (fun k_ => some k_ ≠ (v688 : Value).ownBlock) v692 t691) := ⟨h1_⟩
                    have n2_ : Aside0 (w27.heap[gb682]? = some (.cells #[.int .i64 a0_0, .int .i64 a0_1] 23 (0, 0))) := ⟨h2_⟩
                    have n3_ : Aside0 (w27.heap[gb683]? = some (.cells #[.int .i64 a1_0, .int .i64 a1_1] 23 (0, 0))) := ⟨h3_⟩
                    have n4_ : Aside0 (w27.heap[gb702]? = some (.cells #[.bool false, .slice none 0 0] 60 (0, 0))) := ⟨h4_⟩
                    have n5_ : Aside0 (w.heap.size ≤ gb702) := ⟨h5_⟩
                    have n6_ : Aside0 (w.heap.size ≤ gb702) := ⟨h6_⟩
                    have n7_ : Aside0 (gb682 ≠ gb702) := ⟨h7_⟩
                    have n8_ : Aside0 (gb702 ≠ gb682) := ⟨h8_⟩
                    have n9_ : Aside0 (gb683 ≠ gb702) := ⟨h9_⟩
                    have n10_ : Aside0 (gb702 ≠ gb683) := ⟨h10_⟩
                    have n11_ : Aside0 (Below w.heap.size w w27) := ⟨h11_⟩
                    clear BK682
                    clear BK683
                    clear HB
                    clear h0_ h1_ h2_ h3_ h4_ h5_ h6_ h7_ h8_ h9_ h10_ h11_
                    have HO689 := n0_
                    have HO693 := n1_
                    have BK682 := n2_
                    have BK683 := n3_
                    have BK702 := n4_
                    have GW702 := n5_
                    have GE702 := n6_
                    have NB682_702 := n7_
                    have NB702_682 := n8_
                    have NB683_702 := n9_
                    have NB702_683 := n10_
                    have HB := n11_
                    clear n0_ n1_ n2_ n3_ n4_ n5_ n6_ n7_ n8_ n9_ n10_ n11_
                    have hHeld : w27.cell? ⟨gb682, 0, none⟩ = some (.int .i64 a0_0) ∧ w27.cell? ⟨gb682, 1, none⟩ = some (.int .i64 a0_1) ∧ w27.cell? ⟨gb683, 0, none⟩ = some (.int .i64 a1_0) ∧ w27.cell? ⟨gb683, 1, none⟩ = some (.int .i64 a1_1) := hS_
                    obtain ⟨Ao28, co28, eo28⟩ := Kd.R_slice HO693.out
                    (first | subst eo28 | (injection eo28 with f1_ f2_ f3_; have f4_ := f1_.symm; have f5_ := f3_.symm; clear f1_ f2_ f3_; subst f4_; subst f5_))
                    refine norm_ (a' := ?_) ?_ ?_
                    rotate_left
                    · simp only [putAll, Act.put, List.setIfInBounds_toArray, List.set_cons_zero, List.set_cons_succ]
                      rfl
                    refine one_ (i := 4) (N := some 19) #[true, true, true, true, true, false, true, false] rfl rfl (one_of HT_.out (by kernel_rfl)) (by decide) (fun K hK => ?_)
                    refine goes_ Try.func39 (by kernel_rfl) rfl #[.agg #[.bool t690, .slice Ao28 t691.length co28]] (by rfl) rfl rfl (by (try simp only [List.map_toArray, List.map_cons, List.map_nil]); first | done | rfl | (simp only [List.length_drop, List.length_take]; rfl)) ?_
                    with_reducible refine (computusref01_Minus.calls kj2 t690 (fun k_ => some k_ = (.slice Ao28 t691.length co28 : Value).ownBlock) (.slice Ao28 t691.length co28) t691 t694 t695 w _ ?side1 ?side2 A20.out).mono ?_
                    (case side1 => repeat (first | (with_reducible first | exact HB.out | apply kF | apply kB | apply kG | refine kA ?_ GE682.out | refine kA ?_ GE683.out | refine kA ?_ GE702.out) | exact HB.out))
                    (case side2 => exact Kd.R_tight rfl HO693.out)
                    rintro e w29 ⟨v696, rfl, ho0, hb, hkp⟩
                    refine ⟨_, rfl, ?_⟩
                    have n0_ := Aside0.mk (blk_kept (by (with_reducible repeat (first | refine kC ?_ _ | refine kE ?_ | refine kD ?_ _)); exact BK682.out) hkp (fun hs_ => (fun e_ => (Kd.R_ne HO693.out BK682.out (by decide)) e_) hs_))
                    have n1_ := Aside0.mk (blk_kept (by (with_reducible repeat (first | refine kC ?_ _ | refine kE ?_ | refine kD ?_ _)); exact BK683.out) hkp (fun hs_ => (fun e_ => (Kd.R_ne HO693.out BK683.out (by decide)) e_) hs_))
                    have n2_ := Aside0.mk (Kd.R_mono (ok' := fun k_ => some k_ ≠ (v696 : Value).ownBlock) (Kd.R_keptB (HO689.out) hkp (fun k_ hk_ hs_ => (hk_) hs_)) (fun k_ hk_ => fun e_ => Or.elim (ho0.1 k_ e_.symm) (fun hs_ => hk_.2.1 hs_) (fun hn_ => Nat.not_le.2 hk_.2.2 hn_)))
                    have n3_ := Aside0.mk (blk_kept (by (with_reducible repeat (first | refine kC ?_ _ | refine kE ?_ | refine kD ?_ _)); exact BK702.out) hkp (fun hs_ => (fun e_ => (Kd.R_ne HO693.out BK702.out (by decide)) e_) hs_))
                    have n4_ := Aside0.mk (Kd.R_mono (ok' := fun k_ => some k_ ≠ (v688 : Value).ownBlock) ho0 (fun k_ hk_ => Or.elim hk_ (fun hs_ => fun e_ => (((HO689.out).1 k_ e_.symm)) hs_) (fun hn_ => (Kd.fresh' (Kd.R_lt (by (with_reducible repeat (first | apply Kd.R_alloc | apply Kd.R_drewN | apply Kd.R_drew)); exact HO689.out)) k_ hn_))))
                    have n5_ := Aside0.mk (hb)
                    clear BK682
                    clear BK683
                    clear HO689
                    clear BK702
                    clear HB
                    clear HO693
                    have BK682 := n0_
                    have BK683 := n1_
                    have HO689 := n2_
                    have BK702 := n3_
                    have HO697 := n4_
                    have HB := n5_
                    clear n0_ n1_ n2_ n3_ n4_ n5_
                    (try clear hb)
                    (try clear hkp)
                    (try clear ho0)
                    refine hK.out _ _ ⟨(kH BK682.out 0).trans rfl, (kH BK682.out 1).trans rfl, (kH BK683.out 0).trans rfl, (kH BK683.out 1).trans rfl⟩ (fun hHeld => ?_)
                    clear hK K
                    refine norm_ (a' := ?_) ?_ ?_
                    rotate_left
                    · show Act.put _ (some 19) _ = _
                      simp only [Act.put, List.setIfInBounds_toArray, List.set_cons_zero, List.set_cons_succ, i64_w, i32_w]
                      rfl
                    exact norm_ (by first | (simp only [putAll, Act.put, List.setIfInBounds_toArray, List.set_cons_zero, List.set_cons_succ]; done) | (simp only [putAll, Act.put, List.setIfInBounds_toArray, List.set_cons_zero, List.set_cons_succ]; rfl)) (hJ1_3_4_6 (v688, .slice Ao28 t691.length co28, v696, gb702) _ ⟨hHeld, (by (with_reducible repeat (first | apply Kd.R_alloc | apply Kd.R_drewN | apply Kd.R_drew)); exact HO689.out), (by (with_reducible repeat (first | apply Kd.R_alloc | apply Kd.R_drewN | apply Kd.R_drew)); exact HO697.out), (by (with_reducible repeat (first | refine kC ?_ _ | refine kE ?_ | refine kD ?_ _)); exact BK682.out), (by (with_reducible repeat (first | refine kC ?_ _ | refine kE ?_ | refine kD ?_ _)); exact BK683.out), (by (with_reducible repeat (first | refine kC ?_ _ | refine kE ?_ | refine kD ?_ _)); exact BK702.out), GW702.out, GE702.out, NB682_702.out, NB702_682.out, NB683_702.out, NB702_683.out, (by repeat (first | (with_reducible first | exact HB.out | apply kF | apply kB | apply kG | refine kA ?_ GE682.out | refine kA ?_ GE683.out | refine kA ?_ GE702.out) | exact HB.out))⟩)
                · skip
                  rintro ⟨v688, v692, v696⟩ w28 ⟨hS_, h0_, h1_, h2_, h3_, h4_⟩
                  have n0_ : Aside0 (Kd.R (Kd.int .u64) 52 w28 w.heap.size (fun k_ => some k_ ≠ (v696 : Value).ownBlock) v688 t687) := ⟨h0_⟩
                  have n1_ : Aside0 (Kd.R (Kd.int .u64) 52 w28 w.heap.size (fun k_ => some k_ ≠ (v688 : Value).ownBlock) v696 t695) := ⟨h1_⟩
                  have n2_ : Aside0 (w28.heap[gb682]? = some (.cells #[.int .i64 a0_0, .int .i64 a0_1] 23 (0, 0))) := ⟨h2_⟩
                  have n3_ : Aside0 (w28.heap[gb683]? = some (.cells #[.int .i64 a1_0, .int .i64 a1_1] 23 (0, 0))) := ⟨h3_⟩
                  have n4_ : Aside0 (Below w.heap.size w w28) := ⟨h4_⟩
                  clear BK682
                  clear BK683
                  clear HB
                  clear h0_ h1_ h2_ h3_ h4_
                  have HO689 := n0_
                  have HO697 := n1_
                  have BK682 := n2_
                  have BK683 := n3_
                  have HB := n4_
                  clear n0_ n1_ n2_ n3_ n4_
                  have hHeld : w28.cell? ⟨gb682, 0, none⟩ = some (.int .i64 a0_0) ∧ w28.cell? ⟨gb682, 1, none⟩ = some (.int .i64 a0_1) ∧ w28.cell? ⟨gb683, 0, none⟩ = some (.int .i64 a1_0) ∧ w28.cell? ⟨gb683, 1, none⟩ = some (.int .i64 a1_1) := hS_
                  obtain ⟨Ao29, co29, eo29⟩ := Kd.R_slice HO689.out
                  (first | subst eo29 | (injection eo29 with f1_ f2_ f3_; have f4_ := f1_.symm; have f5_ := f3_.symm; clear f1_ f2_ f3_; subst f4_; subst f5_))
                  obtain ⟨Ao30, co30, eo30⟩ := Kd.R_slice HO697.out
                  (first | subst eo30 | (injection eo30 with f1_ f2_ f3_; have f4_ := f1_.symm; have f5_ := f3_.symm; clear f1_ f2_ f3_; subst f4_; subst f5_))
                  refine norm_ (a' := ?_) ?_ ?_
                  rotate_left
                  · simp only [putAll, Act.put, List.setIfInBounds_toArray, List.set_cons_zero, List.set_cons_succ]
                    rfl
                  refine two_ (i := 5) (j := 6) (Ni := some 20) (Nj := some 5) #[true, true, true, true, true, true, false, false] #[true, true, true, true, true, false, true, false] rfl rfl rfl rfl (two_of HT_.out (by kernel_rfl)) (by decide) (by decide) (fun K hK => ?_) (fun K hK => ?_)
                  · skip
                    refine goes_ Try.func37 (by kernel_rfl) rfl #[.agg #[.bool t686, .slice Ao29 t687.length co29], .agg #[.bool t694, .slice Ao30 t695.length co30]] (by rfl) rfl rfl (by (try simp only [List.map_toArray, List.map_cons, List.map_nil]); first | done | rfl | (simp only [List.length_drop, List.length_take]; rfl)) ?_
                    with_reducible refine (computusref01_Plus.calls kj2 t686 _ _ t687 t694 _ _ t695 true t699 _ ?side1 ?side2 ?side3 ?side4 A21.out).mono ?_
                    (case side1 => repeat (first | exact (Kd.R_reads' HO689.out).2.2 | (with_reducible refine Kd.C_alloc ?_ _) | (with_reducible refine Kd.C_drewN ?_ _) | (with_reducible refine Kd.C_drew ?_)))
                    (case side2 => exact (Kd.R_reads' HO689.out).2.1)
                    (case side3 => repeat (first | exact (Kd.R_reads' HO697.out).2.2 | (with_reducible refine Kd.C_alloc ?_ _) | (with_reducible refine Kd.C_drewN ?_ _) | (with_reducible refine Kd.C_drew ?_)))
                    (case side4 => exact (Kd.R_reads' HO697.out).2.1)
                    rintro e w31 ⟨v700, rfl, ho0, hb⟩
                    refine ⟨_, rfl, ?_⟩
                    have n0_ := Aside0.mk (Kd.R_elder' (by (with_reducible repeat (first | apply Kd.R_alloc | apply Kd.R_drewN | apply Kd.R_drew)); exact HO689.out) (Kd.R_base ho0) hb)
                    have n1_ := Aside0.mk (Kd.R_elder' (by (with_reducible repeat (first | apply Kd.R_alloc | apply Kd.R_drewN | apply Kd.R_drew)); exact HO697.out) (Kd.R_base ho0) hb)
                    have n2_ := Aside0.mk (Kd.R_lower (Kd.R_new' (Kd.R_new' ho0 (Kd.R_lt (by (with_reducible repeat (first | apply Kd.R_alloc | apply Kd.R_drewN | apply Kd.R_drew)); exact HO689.out))) (Kd.R_lt (by (with_reducible repeat (first | apply Kd.R_alloc | apply Kd.R_drewN | apply Kd.R_drew)); exact HO697.out))) (kK (by repeat (first | (with_reducible first | exact HB.out | apply kF | apply kB | apply kG | refine kA ?_ GE682.out | refine kA ?_ GE683.out) | exact HB.out))))
                    have n3_ := Aside0.mk (kI (g := gb682) (o := .cells #[.int .i64 a0_0, .int .i64 a0_1] 23 (0, 0)) (by (with_reducible repeat (first | refine kC ?_ _ | refine kE ?_ | refine kD ?_ _)); exact BK682.out) hb)
                    have n4_ := Aside0.mk (kI (g := gb683) (o := .cells #[.int .i64 a1_0, .int .i64 a1_1] 23 (0, 0)) (by (with_reducible repeat (first | refine kC ?_ _ | refine kE ?_ | refine kD ?_ _)); exact BK683.out) hb)
                    have n5_ := Aside0.mk (kL (by repeat (first | (with_reducible first | exact HB.out | apply kF | apply kB | apply kG | refine kA ?_ GE682.out | refine kA ?_ GE683.out) | exact HB.out)) hb)
                    clear HO689
                    clear HO697
                    clear BK682
                    clear BK683
                    clear HB
                    have HO689 := n0_
                    have HO697 := n1_
                    have HO701 := n2_
                    have BK682 := n3_
                    have BK683 := n4_
                    have HB := n5_
                    clear n0_ n1_ n2_ n3_ n4_ n5_
                    (try clear hb)
                    (try clear hb2)
                    (try clear hk)
                    (try clear hi)
                    (try clear ho0)
                    refine hK.out _ _ ⟨(kH BK682.out 0).trans rfl, (kH BK682.out 1).trans rfl, (kH BK683.out 0).trans rfl, (kH BK683.out 1).trans rfl⟩ (fun hHeld => ?_)
                    clear hK K
                    refine norm_ (a' := ?_) ?_ ?_
                    rotate_left
                    · show Act.put _ (some 20) _ = _
                      simp only [Act.put, List.setIfInBounds_toArray, List.set_cons_zero, List.set_cons_succ, i64_w, i32_w]
                      rfl
                    exact norm_ (by first | (simp only [putAll, Act.put, List.setIfInBounds_toArray, List.set_cons_zero, List.set_cons_succ]; done) | (simp only [putAll, Act.put, List.setIfInBounds_toArray, List.set_cons_zero, List.set_cons_succ]; rfl)) (hJ1_3_4_5 (.slice Ao29 t687.length co29, v692, .slice Ao30 t695.length co30, v700) _ ⟨hHeld, (by (with_reducible repeat (first | apply Kd.R_alloc | apply Kd.R_drewN | apply Kd.R_drew)); exact HO689.out), (by (with_reducible repeat (first | apply Kd.R_alloc | apply Kd.R_drewN | apply Kd.R_drew)); exact HO697.out), (by (with_reducible repeat (first | apply Kd.R_alloc | apply Kd.R_drewN | apply Kd.R_drew)); exact Kd.R_mono HO701.out (fun _ hk => ⟨hk.1.2, hk.2⟩)), (by (with_reducible repeat (first | refine kC ?_ _ | refine kE ?_ | refine kD ?_ _)); exact BK682.out), (by (with_reducible repeat (first | refine kC ?_ _ | refine kE ?_ | refine kD ?_ _)); exact BK683.out), (by repeat (first | (with_reducible first | exact HB.out | apply kF | apply kB | apply kG | refine kA ?_ GE682.out | refine kA ?_ GE683.out) | exact HB.out))⟩)
                  · skip
                    refine box_step ?hg (N := 5) ?hd (cs := #[.bool false, .slice none 0 0]) (t := 60) ?hr ?_; (case hd => rfl); (case hg => rfl); (case hr => first | (go_simp; done) | (go_simp; rfl))
                    intro gb702 hg w29 hbox hb
                    have n0_ := Aside0.mk (Kd.R_below (by (with_reducible repeat (first | apply Kd.R_alloc | apply Kd.R_drewN | apply Kd.R_drew)); exact HO689.out) hb)
                    have n1_ := Aside0.mk (Kd.R_below (by (with_reducible repeat (first | apply Kd.R_alloc | apply Kd.R_drewN | apply Kd.R_drew)); exact HO697.out) hb)
                    have n2_ := Aside0.mk (kI (g := gb682) (o := .cells #[.int .i64 a0_0, .int .i64 a0_1] 23 (0, 0)) (by (with_reducible repeat (first | refine kC ?_ _ | refine kE ?_ | refine kD ?_ _)); exact BK682.out) hb)
                    have n3_ := Aside0.mk (kI (g := gb683) (o := .cells #[.int .i64 a1_0, .int .i64 a1_1] 23 (0, 0)) (by (with_reducible repeat (first | refine kC ?_ _ | refine kE ?_ | refine kD ?_ _)); exact BK683.out) hb)
                    have n4_ := Aside0.mk (kL (by repeat (first | (with_reducible first | exact HB.out | apply kF | apply kB | apply kG | refine kA ?_ GE682.out | refine kA ?_ GE683.out) | exact HB.out)) hb)
                    have n5_ := Aside0.mk (hbox)
                    have n6_ := Aside0.mk ((by rw [hg]; exact (kK (by repeat (first | (with_reducible first | exact HB.out | apply kF | apply kB | apply kG | refine kA ?_ GE682.out | refine kA ?_ GE683.out) | exact HB.out))) : w.heap.size ≤ gb702))
                    have n7_ := Aside0.mk ((by rw [hg]; exact (kK (by repeat (first | (with_reducible first | exact HB.out | apply kF | apply kB | apply kG | refine kA ?_ GE682.out | refine kA ?_ GE683.out) | exact HB.out))) : w.heap.size ≤ gb702))
                    have n8_ := Aside0.mk ((by rw [hg]; exact Nat.ne_of_lt (kM (g := gb682) (o := .cells #[.int .i64 a0_0, .int .i64 a0_1] 23 (0, 0)) (by (with_reducible repeat (first | refine kC ?_ _ | refine kE ?_ | refine kD ?_ _)); exact BK682.out)) : gb682 ≠ gb702))
                    have n9_ := Aside0.mk ((by rw [hg]; exact Nat.ne_of_gt (kM (g := gb682) (o := .cells #[.int .i64 a0_0, .int .i64 a0_1] 23 (0, 0)) (by (with_reducible repeat (first | refine kC ?_ _ | refine kE ?_ | refine kD ?_ _)); exact BK682.out)) : gb702 ≠ gb682))
                    have n10_ := Aside0.mk ((by rw [hg]; exact Nat.ne_of_lt (kM (g := gb683) (o := .cells #[.int .i64 a1_0, .int .i64 a1_1] 23 (0, 0)) (by (with_reducible repeat (first | refine kC ?_ _ | refine kE ?_ | refine kD ?_ _)); exact BK683.out)) : gb683 ≠ gb702))
                    have n11_ := Aside0.mk ((by rw [hg]; exact Nat.ne_of_gt (kM (g := gb683) (o := .cells #[.int .i64 a1_0, .int .i64 a1_1] 23 (0, 0)) (by (with_reducible repeat (first | refine kC ?_ _ | refine kE ?_ | refine kD ?_ _)); exact BK683.out)) : gb702 ≠ gb683))
                    clear HO689
                    clear HO697
                    clear BK682
                    clear BK683
                    clear HB
                    have HO689 := n0_
                    have HO697 := n1_
                    have BK682 := n2_
                    have BK683 := n3_
                    have HB := n4_
                    have BK702 := n5_
                    have GW702 := n6_
                    have GE702 := n7_
                    have NB682_702 := n8_
                    have NB702_682 := n9_
                    have NB683_702 := n10_
                    have NB702_683 := n11_
                    clear n0_ n1_ n2_ n3_ n4_ n5_ n6_ n7_ n8_ n9_ n10_ n11_
                    clear hb hbox hg
                    refine hK.out _ _ ⟨(kH BK682.out 0).trans rfl, (kH BK682.out 1).trans rfl, (kH BK683.out 0).trans rfl, (kH BK683.out 1).trans rfl⟩ (fun hHeld => ?_)
                    clear hK K
                    refine norm_ (a' := ?_) ?_ ?_
                    rotate_left
                    · show Act.put _ (some 5) _ = _
                      simp only [Act.put, List.setIfInBounds_toArray, List.set_cons_zero, List.set_cons_succ, i64_w, i32_w]
                      rfl
                    exact norm_ (by first | (simp only [putAll, Act.put, List.setIfInBounds_toArray, List.set_cons_zero, List.set_cons_succ]; done) | (simp only [putAll, Act.put, List.setIfInBounds_toArray, List.set_cons_zero, List.set_cons_succ]; rfl)) (hJ1_3_4_6 ((.slice Ao29 t687.length co29), v692, (.slice Ao30 t695.length co30), gb702) _ ⟨hHeld, (by (with_reducible repeat (first | apply Kd.R_alloc | apply Kd.R_drewN | apply Kd.R_drew)); exact HO689.out), (by (with_reducible repeat (first | apply Kd.R_alloc | apply Kd.R_drewN | apply Kd.R_drew)); exact HO697.out), (by (with_reducible repeat (first | refine kC ?_ _ | refine kE ?_ | refine kD ?_ _)); exact BK682.out), (by (with_reducible repeat (first | refine kC ?_ _ | refine kE ?_ | refine kD ?_ _)); exact BK683.out), (by (with_reducible repeat (first | refine kC ?_ _ | refine kE ?_ | refine kD ?_ _)); exact BK702.out), GW702.out, GE702.out, NB682_702.out, NB702_682.out, NB683_702.out, NB702_683.out, (by repeat (first | (with_reducible first | exact HB.out | apply kF | apply kB | apply kG | refine kA ?_ GE682.out | refine kA ?_ GE683.out | refine kA ?_ GE702.out) | exact HB.out))⟩)
              · skip
                rintro ⟨v688, v692, v696, gb702⟩ w29 ⟨hS_, h0_, h1_, h2_, h3_, h4_, h5_, h6_, h7_, h8_, h9_, h10_, h11_⟩
                have n0_ : Aside0 (Kd.R (Kd.int .u64) 52 w29 w.heap.size (fun k_ => some k_ ≠ (v696 : Value).ownBlock) v688 t687) := ⟨h0_⟩
                have n1_ : Aside0 (Kd.R (Kd.int .u64) 52 w29 w.heap.size (fun k_ => some k_ ≠ (v688 : Value).ownBlock) v696 t695) := ⟨h1_⟩
                have n2_ : Aside0 (w29.heap[gb682]? = some (.cells #[.int .i64 a0_0, .int .i64 a0_1] 23 (0, 0))) := ⟨h2_⟩
                have n3_ : Aside0 (w29.heap[gb683]? = some (.cells #[.int .i64 a1_0, .int .i64 a1_1] 23 (0, 0))) := ⟨h3_⟩
                have n4_ : Aside0 (w29.heap[gb702]? = some (.cells #[.bool false, .slice none 0 0] 60 (0, 0))) := ⟨h4_⟩
                have n5_ : Aside0 (w.heap.size ≤ gb702) := ⟨h5_⟩
                have n6_ : Aside0 (w.heap.size ≤ gb702) := ⟨h6_⟩
                have n7_ : Aside0 (gb682 ≠ gb702) := ⟨h7_⟩
                have n8_ : Aside0 (gb702 ≠ gb682) := ⟨h8_⟩
                have n9_ : Aside0 (gb683 ≠ gb702) := ⟨h9_⟩
                have n10_ : Aside0 (gb702 ≠ gb683) := ⟨h10_⟩
                have n11_ : Aside0 (Below w.heap.size w w29) := ⟨h11_⟩
                clear BK682
                clear BK683
                clear HB
                clear h0_ h1_ h2_ h3_ h4_ h5_ h6_ h7_ h8_ h9_ h10_ h11_
                have HO689 := n0_
                have HO697 := n1_
                have BK682 := n2_
                have BK683 := n3_
                have BK702 := n4_
                have GW702 := n5_
                have GE702 := n6_
                have NB682_702 := n7_
                have NB702_682 := n8_
                have NB683_702 := n9_
                have NB702_683 := n10_
                have HB := n11_
                clear n0_ n1_ n2_ n3_ n4_ n5_ n6_ n7_ n8_ n9_ n10_ n11_
                have hHeld : w29.cell? ⟨gb682, 0, none⟩ = some (.int .i64 a0_0) ∧ w29.cell? ⟨gb682, 1, none⟩ = some (.int .i64 a0_1) ∧ w29.cell? ⟨gb683, 0, none⟩ = some (.int .i64 a1_0) ∧ w29.cell? ⟨gb683, 1, none⟩ = some (.int .i64 a1_1) := hS_
                obtain ⟨Ao30, co30, eo30⟩ := Kd.R_slice HO689.out
                (first | subst eo30 | (injection eo30 with f1_ f2_ f3_; have f4_ := f1_.symm; have f5_ := f3_.symm; clear f1_ f2_ f3_; subst f4_; subst f5_))
                obtain ⟨Ao31, co31, eo31⟩ := Kd.R_slice HO697.out
                (first | subst eo31 | (injection eo31 with f1_ f2_ f3_; have f4_ := f1_.symm; have f5_ := f3_.symm; clear f1_ f2_ f3_; subst f4_; subst f5_))
                refine norm_ (a' := ?_) ?_ ?_
                rotate_left
                · simp only [putAll, Act.put, List.setIfInBounds_toArray, List.set_cons_zero, List.set_cons_succ]
                  rfl
                refine one_ (i := 5) (N := some 20) #[true, true, true, true, true, true, true, false] rfl rfl (one_of HT_.out (by kernel_rfl)) (by decide) (fun K hK => ?_)
                refine goes_ Try.func37 (by kernel_rfl) rfl #[.agg #[.bool t686, .slice Ao30 t687.length co30], .agg #[.bool t694, .slice Ao31 t695.length co31]] (by rfl) rfl rfl (by (try simp only [List.map_toArray, List.map_cons, List.map_nil]); first | done | rfl | (simp only [List.length_drop, List.length_take]; rfl)) ?_
                with_reducible refine (computusref01_Plus.calls kj2 t686 _ _ t687 t694 _ _ t695 true t699 _ ?side1 ?side2 ?side3 ?side4 A21.out).mono ?_
                (case side1 => repeat (first | exact (Kd.R_reads' HO689.out).2.2 | (with_reducible refine Kd.C_alloc ?_ _) | (with_reducible refine Kd.C_drewN ?_ _) | (with_reducible refine Kd.C_drew ?_)))
                (case side2 => exact (Kd.R_reads' HO689.out).2.1)
                (case side3 => repeat (first | exact (Kd.R_reads' HO697.out).2.2 | (with_reducible refine Kd.C_alloc ?_ _) | (with_reducible refine Kd.C_drewN ?_ _) | (with_reducible refine Kd.C_drew ?_)))
                (case side4 => exact (Kd.R_reads' HO697.out).2.1)
                rintro e w32 ⟨v700, rfl, ho0, hb⟩
                refine ⟨_, rfl, ?_⟩
                have n0_ := Aside0.mk (Kd.R_elder' (by (with_reducible repeat (first | apply Kd.R_alloc | apply Kd.R_drewN | apply Kd.R_drew)); exact HO689.out) (Kd.R_base ho0) hb)
                have n1_ := Aside0.mk (Kd.R_elder' (by (with_reducible repeat (first | apply Kd.R_alloc | apply Kd.R_drewN | apply Kd.R_drew)); exact HO697.out) (Kd.R_base ho0) hb)
                have n2_ := Aside0.mk (Kd.R_lower (Kd.R_new' (Kd.R_new' ho0 (Kd.R_lt (by (with_reducible repeat (first | apply Kd.R_alloc | apply Kd.R_drewN | apply Kd.R_drew)); exact HO689.out))) (Kd.R_lt (by (with_reducible repeat (first | apply Kd.R_alloc | apply Kd.R_drewN | apply Kd.R_drew)); exact HO697.out))) (kK (by repeat (first | (with_reducible first | exact HB.out | apply kF | apply kB | apply kG | refine kA ?_ GE682.out | refine kA ?_ GE683.out | refine kA ?_ GE702.out) | exact HB.out))))
                have n3_ := Aside0.mk (kI (g := gb682) (o := .cells #[.int .i64 a0_0, .int .i64 a0_1] 23 (0, 0)) (by (with_reducible repeat (first | refine kC ?_ _ | refine kE ?_ | refine kD ?_ _)); exact BK682.out) hb)
                have n4_ := Aside0.mk (kI (g := gb683) (o := .cells #[.int .i64 a1_0, .int .i64 a1_1] 23 (0, 0)) (by (with_reducible repeat (first | refine kC ?_ _ | refine kE ?_ | refine kD ?_ _)); exact BK683.out) hb)
                have n5_ := Aside0.mk (kI (g := gb702) (o := .cells #[.bool false, .slice none 0 0] 60 (0, 0)) (by (with_reducible repeat (first | refine kC ?_ _ | refine kE ?_ | refine kD ?_ _)); exact BK702.out) hb)
                have n6_ := Aside0.mk (kL (by repeat (first | (with_reducible first | exact HB.out | apply kF | apply kB | apply kG | refine kA ?_ GE682.out | refine kA ?_ GE683.out | refine kA ?_ GE702.out) | exact HB.out)) hb)
                clear HO689
                clear HO697
                clear BK682
                clear BK683
                clear BK702
                clear HB
                have HO689 := n0_
                have HO697 := n1_
                have HO701 := n2_
                have BK682 := n3_
                have BK683 := n4_
                have BK702 := n5_
                have HB := n6_
                clear n0_ n1_ n2_ n3_ n4_ n5_ n6_
                (try clear hb)
                (try clear hb2)
                (try clear hk)
                (try clear hi)
                (try clear ho0)
                refine hK.out _ _ ⟨(kH BK682.out 0).trans rfl, (kH BK682.out 1).trans rfl, (kH BK683.out 0).trans rfl, (kH BK683.out 1).trans rfl⟩ (fun hHeld => ?_)
                clear hK K
                refine norm_ (a' := ?_) ?_ ?_
                rotate_left
                · show Act.put _ (some 20) _ = _
                  simp only [Act.put, List.setIfInBounds_toArray, List.set_cons_zero, List.set_cons_succ, i64_w, i32_w]
                  rfl
                exact norm_ (by first | (simp only [putAll, Act.put, List.setIfInBounds_toArray, List.set_cons_zero, List.set_cons_succ]; done) | (simp only [putAll, Act.put, List.setIfInBounds_toArray, List.set_cons_zero, List.set_cons_succ]; rfl)) (hJ1_3_4_5_6 (.slice Ao30 t687.length co30, v692, .slice Ao31 t695.length co31, v700, gb702) _ ⟨hHeld, (by (with_reducible repeat (first | apply Kd.R_alloc | apply Kd.R_drewN | apply Kd.R_drew)); exact HO689.out), (by (with_reducible repeat (first | apply Kd.R_alloc | apply Kd.R_drewN | apply Kd.R_drew)); exact HO697.out), (by (with_reducible repeat (first | apply Kd.R_alloc | apply Kd.R_drewN | apply Kd.R_drew)); exact Kd.R_mono HO701.out (fun _ hk => ⟨hk.1.2, hk.2⟩)), (by (with_reducible repeat (first | refine kC ?_ _ | refine kE ?_ | refine kD ?_ _)); exact BK682.out), (by (with_reducible repeat (first | refine kC ?_ _ | refine kE ?_ | refine kD ?_ _)); exact BK683.out), (by (with_reducible repeat (first | refine kC ?_ _ | refine kE ?_ | refine kD ?_ _)); exact BK702.out), GW702.out, GE702.out, NB682_702.out, NB702_682.out, NB683_702.out, NB702_683.out, (by repeat (first | (with_reducible first | exact HB.out | apply kF | apply kB | apply kG | refine kA ?_ GE682.out | refine kA ?_ GE683.out | refine kA ?_ GE702.out) | exact HB.out))⟩)
            · skip
              rintro ⟨v688, v692, v696, v700⟩ w31 ⟨hS_, h0_, h1_, h2_, h3_, h4_, h5_⟩
              have n0_ : Aside0 (Kd.R (Kd.int .u64) 52 w31 w.heap.size (fun k_ => some k_ ≠ (v696 : Value).ownBlock ∧ some k_ ≠ (v700 : Value).ownBlock) v688 t687) := ⟨h0_⟩
              have n1_ : Aside0 (Kd.R (Kd.int .u64) 52 w31 w.heap.size (fun k_ => some k_ ≠ (v688 : Value).ownBlock ∧ some k_ ≠ (v700 : Value).ownBlock) v696 t695) := ⟨h1_⟩
              have n2_ : Aside0 (Kd.R (Kd.int .u64) 52 w31 w.heap.size (fun k_ => some k_ ≠ (v688 : Value).ownBlock ∧ some k_ ≠ (v696 : Value).ownBlock) v700 t699) := ⟨h2_⟩
              have n3_ : Aside0 (w31.heap[gb682]? = some (.cells #[.int .i64 a0_0, .int .i64 a0_1] 23 (0, 0))) := ⟨h3_⟩
              have n4_ : Aside0 (w31.heap[gb683]? = some (.cells #[.int .i64 a1_0, .int .i64 a1_1] 23 (0, 0))) := ⟨h4_⟩
              have n5_ : Aside0 (Below w.heap.size w w31) := ⟨h5_⟩
              clear BK682
              clear BK683
              clear HB
              clear h0_ h1_ h2_ h3_ h4_ h5_
              have HO689 := n0_
              have HO697 := n1_
              have HO701 := n2_
              have BK682 := n3_
              have BK683 := n4_
              have HB := n5_
              clear n0_ n1_ n2_ n3_ n4_ n5_
              have hHeld : w31.cell? ⟨gb682, 0, none⟩ = some (.int .i64 a0_0) ∧ w31.cell? ⟨gb682, 1, none⟩ = some (.int .i64 a0_1) ∧ w31.cell? ⟨gb683, 0, none⟩ = some (.int .i64 a1_0) ∧ w31.cell? ⟨gb683, 1, none⟩ = some (.int .i64 a1_1) := hS_
              refine norm_ (a' := ?_) ?_ ?_
              rotate_left
              · simp only [putAll, Act.put, List.setIfInBounds_toArray, List.set_cons_zero, List.set_cons_succ]
                rfl
              refine one_ (i := 6) (N := some 5) #[true, true, true, true, true, true, true, false] rfl rfl (one_of HT_.out (by kernel_rfl)) (by decide) (fun K hK => ?_)
              refine box_step ?hg (N := 5) ?hd (cs := #[.bool false, .slice none 0 0]) (t := 60) ?hr ?_; (case hd => rfl); (case hg => rfl); (case hr => first | (go_simp; done) | (go_simp; rfl))
              intro gb702 hg w32 hbox hb
              have n0_ := Aside0.mk (Kd.R_below (by (with_reducible repeat (first | apply Kd.R_alloc | apply Kd.R_drewN | apply Kd.R_drew)); exact HO689.out) hb)
              have n1_ := Aside0.mk (Kd.R_below (by (with_reducible repeat (first | apply Kd.R_alloc | apply Kd.R_drewN | apply Kd.R_drew)); exact HO697.out) hb)
              have n2_ := Aside0.mk (Kd.R_below (by (with_reducible repeat (first | apply Kd.R_alloc | apply Kd.R_drewN | apply Kd.R_drew)); exact HO701.out) hb)
              have n3_ := Aside0.mk (kI (g := gb682) (o := .cells #[.int .i64 a0_0, .int .i64 a0_1] 23 (0, 0)) (by (with_reducible repeat (first | refine kC ?_ _ | refine kE ?_ | refine kD ?_ _)); exact BK682.out) hb)
              have n4_ := Aside0.mk (kI (g := gb683) (o := .cells #[.int .i64 a1_0, .int .i64 a1_1] 23 (0, 0)) (by (with_reducible repeat (first | refine kC ?_ _ | refine kE ?_ | refine kD ?_ _)); exact BK683.out) hb)
              have n5_ := Aside0.mk (kL (by repeat (first | (with_reducible first | exact HB.out | apply kF | apply kB | apply kG | refine kA ?_ GE682.out | refine kA ?_ GE683.out) | exact HB.out)) hb)
              have n6_ := Aside0.mk (hbox)
              have n7_ := Aside0.mk ((by rw [hg]; exact (kK (by repeat (first | (with_reducible first | exact HB.out | apply kF | apply kB | apply kG | refine kA ?_ GE682.out | refine kA ?_ GE683.out) | exact HB.out))) : w.heap.size ≤ gb702))
              have n8_ := Aside0.mk ((by rw [hg]; exact (kK (by repeat (first | (with_reducible first | exact HB.out | apply kF | apply kB | apply kG | refine kA ?_ GE682.out | refine kA ?_ GE683.out) | exact HB.out))) : w.heap.size ≤ gb702))
              have n9_ := Aside0.mk ((by rw [hg]; exact Nat.ne_of_lt (kM (g := gb682) (o := .cells #[.int .i64 a0_0, .int .i64 a0_1] 23 (0, 0)) (by (with_reducible repeat (first | refine kC ?_ _ | refine kE ?_ | refine kD ?_ _)); exact BK682.out)) : gb682 ≠ gb702))
              have n10_ := Aside0.mk ((by rw [hg]; exact Nat.ne_of_gt (kM (g := gb682) (o := .cells #[.int .i64 a0_0, .int .i64 a0_1] 23 (0, 0)) (by (with_reducible repeat (first | refine kC ?_ _ | refine kE ?_ | refine kD ?_ _)); exact BK682.out)) : gb702 ≠ gb682))
              have n11_ := Aside0.mk ((by rw [hg]; exact Nat.ne_of_lt (kM (g := gb683) (o := .cells #[.int .i64 a1_0, .int .i64 a1_1] 23 (0, 0)) (by (with_reducible repeat (first | refine kC ?_ _ | refine kE ?_ | refine kD ?_ _)); exact BK683.out)) : gb683 ≠ gb702))
              have n12_ := Aside0.mk ((by rw [hg]; exact Nat.ne_of_gt (kM (g := gb683) (o := .cells #[.int .i64 a1_0, .int .i64 a1_1] 23 (0, 0)) (by (with_reducible repeat (first | refine kC ?_ _ | refine kE ?_ | refine kD ?_ _)); exact BK683.out)) : gb702 ≠ gb683))
              clear HO689
              clear HO697
              clear HO701
              clear BK682
              clear BK683
              clear HB
              have HO689 := n0_
              have HO697 := n1_
              have HO701 := n2_
              have BK682 := n3_
              have BK683 := n4_
              have HB := n5_
              have BK702 := n6_
              have GW702 := n7_
              have GE702 := n8_
              have NB682_702 := n9_
              have NB702_682 := n10_
              have NB683_702 := n11_
              have NB702_683 := n12_
              clear n0_ n1_ n2_ n3_ n4_ n5_ n6_ n7_ n8_ n9_ n10_ n11_ n12_
              clear hb hbox hg
              refine hK.out _ _ ⟨(kH BK682.out 0).trans rfl, (kH BK682.out 1).trans rfl, (kH BK683.out 0).trans rfl, (kH BK683.out 1).trans rfl⟩ (fun hHeld => ?_)
              clear hK K
              refine norm_ (a' := ?_) ?_ ?_
              rotate_left
              · show Act.put _ (some 5) _ = _
                simp only [Act.put, List.setIfInBounds_toArray, List.set_cons_zero, List.set_cons_succ, i64_w, i32_w]
                rfl
              exact norm_ (by first | (simp only [putAll, Act.put, List.setIfInBounds_toArray, List.set_cons_zero, List.set_cons_succ]; done) | (simp only [putAll, Act.put, List.setIfInBounds_toArray, List.set_cons_zero, List.set_cons_succ]; rfl)) (hJ1_3_4_5_6 (v688, v692, v696, v700, gb702) _ ⟨hHeld, (by (with_reducible repeat (first | apply Kd.R_alloc | apply Kd.R_drewN | apply Kd.R_drew)); exact HO689.out), (by (with_reducible repeat (first | apply Kd.R_alloc | apply Kd.R_drewN | apply Kd.R_drew)); exact HO697.out), (by (with_reducible repeat (first | apply Kd.R_alloc | apply Kd.R_drewN | apply Kd.R_drew)); exact HO701.out), (by (with_reducible repeat (first | refine kC ?_ _ | refine kE ?_ | refine kD ?_ _)); exact BK682.out), (by (with_reducible repeat (first | refine kC ?_ _ | refine kE ?_ | refine kD ?_ _)); exact BK683.out), (by (with_reducible repeat (first | refine kC ?_ _ | refine kE ?_ | refine kD ?_ _)); exact BK702.out), GW702.out, GE702.out, NB682_702.out, NB702_682.out, NB683_702.out, NB702_683.out, (by repeat (first | (with_reducible first | exact HB.out | apply kF | apply kB | apply kG | refine kA ?_ GE682.out | refine kA ?_ GE683.out | refine kA ?_ GE702.out) | exact HB.out))⟩)
          rintro ⟨v688, v692, v696, v700, gb702⟩ w32 ⟨hS_, h0_, h1_, h2_, h3_, h4_, h5_, h6_, h7_, h8_, h9_, h10_, h11_, h12_⟩
          have n0_ : Aside0 (Kd.R (Kd.int .u64) 52 w32 w.heap.size (fun k_ => some k_ ≠ (v696 : Value).ownBlock ∧ some k_ ≠ (v700 : Value).ownBlock) v688 t687) := ⟨h0_⟩
          have n1_ : Aside0 (Kd.R (Kd.int .u64) 52 w32 w.heap.size (fun k_ => some k_ ≠ (v688 : Value).ownBlock ∧ some k_ ≠ (v700 : Value).ownBlock) v696 t695) := ⟨h1_⟩
          have n2_ : Aside0 (Kd.R (Kd.int .u64) 52 w32 w.heap.size (fun k_ => some k_ ≠ (v688 : Value).ownBlock ∧ some k_ ≠ (v696 : Value).ownBlock) v700 t699) := ⟨h2_⟩
          have n3_ : Aside0 (w32.heap[gb682]? = some (.cells #[.int .i64 a0_0, .int .i64 a0_1] 23 (0, 0))) := ⟨h3_⟩
          have n4_ : Aside0 (w32.heap[gb683]? = some (.cells #[.int .i64 a1_0, .int .i64 a1_1] 23 (0, 0))) := ⟨h4_⟩
          have n5_ : Aside0 (w32.heap[gb702]? = some (.cells #[.bool false, .slice none 0 0] 60 (0, 0))) := ⟨h5_⟩
          have n6_ : Aside0 (w.heap.size ≤ gb702) := ⟨h6_⟩
          have n7_ : Aside0 (w.heap.size ≤ gb702) := ⟨h7_⟩
          have n8_ : Aside0 (gb682 ≠ gb702) := ⟨h8_⟩
          have n9_ : Aside0 (gb702 ≠ gb682) := ⟨h9_⟩
          have n10_ : Aside0 (gb683 ≠ gb702) := ⟨h10_⟩
          have n11_ : Aside0 (gb702 ≠ gb683) := ⟨h11_⟩
          have n12_ : Aside0 (Below w.heap.size w w32) := ⟨h12_⟩
          clear BK682
          clear BK683
          clear HB
          clear h0_ h1_ h2_ h3_ h4_ h5_ h6_ h7_ h8_ h9_ h10_ h11_ h12_
          have HO689 := n0_
          have HO697 := n1_
          have HO701 := n2_
          have BK682 := n3_
          have BK683 := n4_
          have BK702 := n5_
          have GW702 := n6_
          have GE702 := n7_
          have NB682_702 := n8_
          have NB702_682 := n9_
          have NB683_702 := n10_
          have NB702_683 := n11_
          have HB := n12_
          clear n0_ n1_ n2_ n3_ n4_ n5_ n6_ n7_ n8_ n9_ n10_ n11_ n12_
          have hHeld : w32.cell? ⟨gb682, 0, none⟩ = some (.int .i64 a0_0) ∧ w32.cell? ⟨gb682, 1, none⟩ = some (.int .i64 a0_1) ∧ w32.cell? ⟨gb683, 0, none⟩ = some (.int .i64 a1_0) ∧ w32.cell? ⟨gb683, 1, none⟩ = some (.int .i64 a1_1) := hS_
          obtain ⟨Ao34, co34, eo34⟩ := Kd.R_slice HO701.out
          (first | subst eo34 | (injection eo34 with f1_ f2_ f3_; have f4_ := f1_.symm; have f5_ := f3_.symm; clear f1_ f2_ f3_; subst f4_; subst f5_))
          refine norm_ (a' := ?_) ?_ ?_
          rotate_left
          · simp only [putAll, Act.put, List.setIfInBounds_toArray, List.set_cons_zero, List.set_cons_succ]
            rfl
          refine one_ (i := 7) (N := none) #[true, true, true, true, true, true, true, true] rfl rfl (one_of HT_.out (by kernel_rfl)) (by decide) (fun K hK => ?_)
          have hs33 : w32.cell? ⟨gb702, 0, none⟩ = some (.bool false) := (kH BK702.out 0).trans rfl
          have hfs33 := kJ BK702.out 0
          have hns33_0 := NB682_702.out
          have hns33_1 := NB683_702.out
          have hms33_0 := NB702_682.out
          have hms33_1 := NB702_683.out
          have hs35 : w32.cell? ⟨gb702, 1, none⟩ = some (.slice none 0 0) := (kH BK702.out 1).trans rfl
          have hfs35 := kJ BK702.out 1
          have hns35_0 := NB682_702.out
          have hns35_1 := NB683_702.out
          have hms35_0 := NB702_682.out
          have hms35_1 := NB702_683.out
          refine skip_ (w1 := ?_) (by rfl) rfl ?_ ?_
          rotate_left
          · go_simp
            rfl
          refine hK.out _ _ ⟨((cell_far (p := ⟨gb702, _, none⟩) NB682_702.out _).trans (((cell_far (p := ⟨gb702, _, none⟩) NB682_702.out _).trans (hHeld.1)))), ((cell_far (p := ⟨gb702, _, none⟩) NB682_702.out _).trans (((cell_far (p := ⟨gb702, _, none⟩) NB682_702.out _).trans (hHeld.2.1)))), ((cell_far (p := ⟨gb702, _, none⟩) NB683_702.out _).trans (((cell_far (p := ⟨gb702, _, none⟩) NB683_702.out _).trans (hHeld.2.2.1)))), ((cell_far (p := ⟨gb702, _, none⟩) NB683_702.out _).trans (((cell_far (p := ⟨gb702, _, none⟩) NB683_702.out _).trans (hHeld.2.2.2))))⟩ (fun hHeld => ?_)
          clear hK K
          refine done_ (done_of HT_.out (by kernel_rfl)) ?_
          have hnb36 := NB702_682.out
          have hnc36 := NB682_702.out
          have hnb37 := NB702_683.out
          have hnc37 := NB683_702.out
          have hcz38_0 : w32.cell? ⟨gb702, 0, none⟩ = some (.bool false) := (kH BK702.out 0).trans rfl
          have hcz38_1 : w32.cell? ⟨gb702, 1, none⟩ = some (.slice none 0 0) := (kH BK702.out 1).trans rfl
          have hfz38_0 := kJ BK702.out 0
          have hfz38_1 := kJ BK702.out 1
          try go_wp2
          go_ret
          exact ⟨by first | rfl | (simp [errW_none, errW_some] <;> rfl) | (simp [*, errW_none, errW_some] <;> rfl), by repeat (first | (with_reducible first | exact HB.out | apply kF | apply kB | apply kG | refine kA ?_ GE682.out | refine kA ?_ GE683.out | refine kA ?_ GE702.out) | exact HB.out)⟩
        · replace c22 := Bool.eq_false_iff.mpr c22
          subst c22
          have H1 : (computusref04_Cmp.l0 kj2 0 false t699) = some r := by rw [if_neg (show ¬ (false = true) by decide)] at H; exact H
          clear H
          have H := H1
          clear H1
          have H' := Aside0.mk H
          clear H
          try go_wp2
          have n0_ := Aside0.mk (kE BK682.out)
          have n1_ := Aside0.mk (kE BK683.out)
          have n2_ := Aside0.mk (kG HB.out)
          clear BK682
          clear BK683
          clear HB
          have BK682 := n0_
          have BK683 := n1_
          have HB := n2_
          clear n0_ n1_ n2_
          refine start_ (n := 8) (S := fun w' => w'.cell? ⟨gb682, 0, none⟩ = some (.int .i64 a0_0) ∧ w'.cell? ⟨gb682, 1, none⟩ = some (.int .i64 a0_1) ∧ w'.cell? ⟨gb683, 0, none⟩ = some (.int .i64 a1_0) ∧ w'.cell? ⟨gb683, 1, none⟩ = some (.int .i64 a1_1)) (ds := []) #[false, false, false, false, false, false, false, false] (by kernel_rfl) rfl rfl ⟨(kH BK682.out 0).trans rfl, (kH BK682.out 1).trans rfl, (kH BK683.out 0).trans rfl, (kH BK683.out 1).trans rfl⟩ (fun hHeld => ?_); refine with_tabW computusref04_Cmp.tab3 computusref04_Cmp.bits3 (fun HT_ HW_ => ?_)
          generalize wc.drew = w39 at BK682 BK683 HB hHeld ⊢
          refine take_ (i := 0) (N := some 15) (v := ?_) (a' := ?_) #[true, false, false, false, false, false, false, false] rfl rfl (take_ofW HT_.out HW_.out (by kernel_rfl)) (fun _ _ _ h => h) (Or.inl ⟨by rfl, ?_⟩) hHeld ?_ ?_
          rotate_left
          · rintro w' ⟨s0, s1, s2, s3⟩
            go_simp
            with_reducible rfl
          rotate_left
          · simp only [Act.put, List.setIfInBounds_toArray, List.set_cons_zero, List.set_cons_succ, i64_w, i32_w]
            rfl
          refine take_ (i := 2) (N := some 17) (v := ?_) (a' := ?_) #[true, false, true, false, false, false, false, false] rfl rfl (take_ofW HT_.out HW_.out (by kernel_rfl)) (fun _ _ _ h => h) (Or.inl ⟨by rfl, ?_⟩) hHeld ?_ ?_
          rotate_left
          · rintro w' ⟨s0, s1, s2, s3⟩
            go_simp
            with_reducible rfl
          rotate_left
          · simp only [Act.put, List.setIfInBounds_toArray, List.set_cons_zero, List.set_cons_succ, i64_w, i32_w]
            rfl
          refine join_ (σ := Value × Value × Value × Value × Nat) 1 #[true, true, true, true, true, true, true, false] (fun s_ => [(16, .agg #[.bool t686, s_.1]), (18, .agg #[.bool t690, s_.2.1]), (19, .agg #[.bool t694, s_.2.2.1]), (20, .agg #[.bool false, s_.2.2.2.1]), (5, .pointer (some ⟨s_.2.2.2.2, 0, none⟩))]) (fun s_ w' => (w'.cell? ⟨gb682, 0, none⟩ = some (.int .i64 a0_0) ∧ w'.cell? ⟨gb682, 1, none⟩ = some (.int .i64 a0_1) ∧ w'.cell? ⟨gb683, 0, none⟩ = some (.int .i64 a1_0) ∧ w'.cell? ⟨gb683, 1, none⟩ = some (.int .i64 a1_1)) ∧ (Kd.R (Kd.int .u64) 52 w' w.heap.size (fun k_ => some k_ ≠ (s_.2.2.1 : Value).ownBlock ∧ some k_ ≠ (s_.2.2.2.1 : Value).ownBlock) s_.1 t687) ∧ (Kd.R (Kd.int .u64) 52 w' w.heap.size (fun k_ => some k_ ≠ (s_.1 : Value).ownBlock ∧ some k_ ≠ (s_.2.2.2.1 : Value).ownBlock) s_.2.2.1 t695) ∧ (Kd.R (Kd.int .u64) 52 w' w.heap.size (fun k_ => some k_ ≠ (s_.1 : Value).ownBlock ∧ some k_ ≠ (s_.2.2.1 : Value).ownBlock) s_.2.2.2.1 t699) ∧ (w'.heap[gb682]? = some (.cells #[.int .i64 a0_0, .int .i64 a0_1] 23 (0, 0))) ∧ (w'.heap[gb683]? = some (.cells #[.int .i64 a1_0, .int .i64 a1_1] 23 (0, 0))) ∧ (w'.heap[s_.2.2.2.2]? = some (.cells #[.bool false, .slice none 0 0] 60 (0, 0))) ∧ (w.heap.size ≤ s_.2.2.2.2) ∧ (w.heap.size ≤ s_.2.2.2.2) ∧ (gb682 ≠ s_.2.2.2.2) ∧ (s_.2.2.2.2 ≠ gb682) ∧ (gb683 ≠ s_.2.2.2.2) ∧ (s_.2.2.2.2 ≠ gb683) ∧ (Below w.heap.size w w')) ?_ ?_
          rotate_left
          · intro hJ1_3_4_5_6
            refine join_ (σ := Value × Value × Value × Value) 2 #[true, true, true, true, true, true, false, false] (fun s_ => [(16, .agg #[.bool t686, s_.1]), (18, .agg #[.bool t690, s_.2.1]), (19, .agg #[.bool t694, s_.2.2.1]), (20, .agg #[.bool false, s_.2.2.2])]) (fun s_ w' => (w'.cell? ⟨gb682, 0, none⟩ = some (.int .i64 a0_0) ∧ w'.cell? ⟨gb682, 1, none⟩ = some (.int .i64 a0_1) ∧ w'.cell? ⟨gb683, 0, none⟩ = some (.int .i64 a1_0) ∧ w'.cell? ⟨gb683, 1, none⟩ = some (.int .i64 a1_1)) ∧ (Kd.R (Kd.int .u64) 52 w' w.heap.size (fun k_ => some k_ ≠ (s_.2.2.1 : Value).ownBlock ∧ some k_ ≠ (s_.2.2.2 : Value).ownBlock) s_.1 t687) ∧ (Kd.R (Kd.int .u64) 52 w' w.heap.size (fun k_ => some k_ ≠ (s_.1 : Value).ownBlock ∧ some k_ ≠ (s_.2.2.2 : Value).ownBlock) s_.2.2.1 t695) ∧ (Kd.R (Kd.int .u64) 52 w' w.heap.size (fun k_ => some k_ ≠ (s_.1 : Value).ownBlock ∧ some k_ ≠ (s_.2.2.1 : Value).ownBlock) s_.2.2.2 t699) ∧ (w'.heap[gb682]? = some (.cells #[.int .i64 a0_0, .int .i64 a0_1] 23 (0, 0))) ∧ (w'.heap[gb683]? = some (.cells #[.int .i64 a1_0, .int .i64 a1_1] 23 (0, 0))) ∧ (Below w.heap.size w w')) ?_ ?_
            rotate_left
            · intro hJ1_3_4_5
              refine join_ (σ := Value × Value × Value × Nat) 2 #[true, true, true, true, true, false, true, false] (fun s_ => [(16, .agg #[.bool t686, s_.1]), (18, .agg #[.bool t690, s_.2.1]), (19, .agg #[.bool t694, s_.2.2.1]), (5, .pointer (some ⟨s_.2.2.2, 0, none⟩))]) (fun s_ w' => (w'.cell? ⟨gb682, 0, none⟩ = some (.int .i64 a0_0) ∧ w'.cell? ⟨gb682, 1, none⟩ = some (.int .i64 a0_1) ∧ w'.cell? ⟨gb683, 0, none⟩ = some (.int .i64 a1_0) ∧ w'.cell? ⟨gb683, 1, none⟩ = some (.int .i64 a1_1)) ∧ (Kd.R (Kd.int .u64) 52 w' w.heap.size (fun k_ => some k_ ≠ (s_.2.2.1 : Value).ownBlock) s_.1 t687) ∧ (Kd.R (Kd.int .u64) 52 w' w.heap.size (fun k_ => some k_ ≠ (s_.1 : Value).ownBlock) s_.2.2.1 t695) ∧ (w'.heap[gb682]? = some (.cells #[.int .i64 a0_0, .int .i64 a0_1] 23 (0, 0))) ∧ (w'.heap[gb683]? = some (.cells #[.int .i64 a1_0, .int .i64 a1_1] 23 (0, 0))) ∧ (w'.heap[s_.2.2.2]? = some (.cells #[.bool false, .slice none 0 0] 60 (0, 0))) ∧ (w.heap.size ≤ s_.2.2.2) ∧ (w.heap.size ≤ s_.2.2.2) ∧ (gb682 ≠ s_.2.2.2) ∧ (s_.2.2.2 ≠ gb682) ∧ (gb683 ≠ s_.2.2.2) ∧ (s_.2.2.2 ≠ gb683) ∧ (Below w.heap.size w w')) ?_ ?_
              rotate_left
              · intro hJ1_3_4_6
                refine join_ (σ := Value × Value × Value) 3 #[true, true, true, true, true, false, false, false] (fun s_ => [(16, .agg #[.bool t686, s_.1]), (18, .agg #[.bool t690, s_.2.1]), (19, .agg #[.bool t694, s_.2.2])]) (fun s_ w' => (w'.cell? ⟨gb682, 0, none⟩ = some (.int .i64 a0_0) ∧ w'.cell? ⟨gb682, 1, none⟩ = some (.int .i64 a0_1) ∧ w'.cell? ⟨gb683, 0, none⟩ = some (.int .i64 a1_0) ∧ w'.cell? ⟨gb683, 1, none⟩ = some (.int .i64 a1_1)) ∧ (Kd.R (Kd.int .u64) 52 w' w.heap.size (fun k_ => some k_ ≠ (s_.2.2 : Value).ownBlock) s_.1 t687) ∧ (Kd.R (Kd.int .u64) 52 w' w.heap.size (fun k_ => some k_ ≠ (s_.1 : Value).ownBlock) s_.2.2 t695) ∧ (w'.heap[gb682]? = some (.cells #[.int .i64 a0_0, .int .i64 a0_1] 23 (0, 0))) ∧ (w'.heap[gb683]? = some (.cells #[.int .i64 a1_0, .int .i64 a1_1] 23 (0, 0))) ∧ (Below w.heap.size w w')) ?_ ?_
                rotate_left
                · intro hJ1_3_4
                  refine join_ (σ := Value × Value × Nat) 3 #[true, true, true, true, false, false, true, false] (fun s_ => [(16, .agg #[.bool t686, s_.1]), (18, .agg #[.bool t690, s_.2.1]), (5, .pointer (some ⟨s_.2.2, 0, none⟩))]) (fun s_ w' => (w'.cell? ⟨gb682, 0, none⟩ = some (.int .i64 a0_0) ∧ w'.cell? ⟨gb682, 1, none⟩ = some (.int .i64 a0_1) ∧ w'.cell? ⟨gb683, 0, none⟩ = some (.int .i64 a1_0) ∧ w'.cell? ⟨gb683, 1, none⟩ = some (.int .i64 a1_1)) ∧ (Kd.R (Kd.int .u64) 52 w' w.heap.size (fun k_ => some k_ ≠ (s_.2.1 : Value).ownBlock) s_.1 t687) ∧ (Kd.R (Kd.int .u64) 52 w' w.heap.size (fun k_ => some k_ ≠ (s_.1 : Value).ownBlock) s_.2.1 t691) ∧ (w'.heap[gb682]? = some (.cells #[.int .i64 a0_0, .int .i64 a0_1] 23 (0, 0))) ∧ (w'.heap[gb683]? = some (.cells #[.int .i64 a1_0, .int .i64 a1_1] 23 (0, 0))) ∧ (w'.heap[s_.2.2]? = some (.cells #[.bool false, .slice none 0 0] 60 (0, 0))) ∧ (w.heap.size ≤ s_.2.2) ∧ (w.heap.size ≤ s_.2.2) ∧ (gb682 ≠ s_.2.2) ∧ (s_.2.2 ≠ gb682) ∧ (gb683 ≠ s_.2.2) ∧ (s_.2.2 ≠ gb683) ∧ (Below w.heap.size w w')) ?_ ?_
                  rotate_left
                  · intro hJ1_3_6
                    refine join_ (σ := Value × Value) 4 #[true, true, true, true, false, false, false, false] (fun s_ => [(16, .agg #[.bool t686, s_.1]), (18, .agg #[.bool t690, s_.2])]) (fun s_ w' => (w'.cell? ⟨gb682, 0, none⟩ = some (.int .i64 a0_0) ∧ w'.cell? ⟨gb682, 1, none⟩ = some (.int .i64 a0_1) ∧ w'.cell? ⟨gb683, 0, none⟩ = some (.int .i64 a1_0) ∧ w'.cell? ⟨gb683, 1, none⟩ = some (.int .i64 a1_1)) ∧ (Kd.R (Kd.int .u64) 52 w' w.heap.size (fun k_ => some k_ ≠ (s_.2 : Value).ownBlock) s_.1 t687) ∧ (Kd.R (Kd.int .u64) 52 w' w.heap.size (fun k_ => some k_ ≠ (s_.1 : Value).ownBlock) s_.2 t691) ∧ (w'.heap[gb682]? = some (.cells #[.int .i64 a0_0, .int .i64 a0_1] 23 (0, 0))) ∧ (w'.heap[gb683]? = some (.cells #[.int .i64 a1_0, .int .i64 a1_1] 23 (0, 0))) ∧ (Below w.heap.size w w')) ?_ ?_
                    rotate_left
                    · intro hJ1_3
                      refine join_ (σ := Value × Nat) 4 #[true, true, true, false, false, false, true, false] (fun s_ => [(16, .agg #[.bool t686, s_.1]), (5, .pointer (some ⟨s_.2, 0, none⟩))]) (fun s_ w' => (w'.cell? ⟨gb682, 0, none⟩ = some (.int .i64 a0_0) ∧ w'.cell? ⟨gb682, 1, none⟩ = some (.int .i64 a0_1) ∧ w'.cell? ⟨gb683, 0, none⟩ = some (.int .i64 a1_0) ∧ w'.cell? ⟨gb683, 1, none⟩ = some (.int .i64 a1_1)) ∧ (Kd.R (Kd.int .u64) 52 w' w.heap.size (fun _ => True) s_.1 t687) ∧ (w'.heap[gb682]? = some (.cells #[.int .i64 a0_0, .int .i64 a0_1] 23 (0, 0))) ∧ (w'.heap[gb683]? = some (.cells #[.int .i64 a1_0, .int .i64 a1_1] 23 (0, 0))) ∧ (w'.heap[s_.2]? = some (.cells #[.bool false, .slice none 0 0] 60 (0, 0))) ∧ (w.heap.size ≤ s_.2) ∧ (w.heap.size ≤ s_.2) ∧ (gb682 ≠ s_.2) ∧ (s_.2 ≠ gb682) ∧ (gb683 ≠ s_.2) ∧ (s_.2 ≠ gb683) ∧ (Below w.heap.size w w')) ?_ ?_
                      rotate_left
                      · intro hJ1_6
                        refine join_ (σ := Value) 5 #[true, true, true, false, false, false, false, false] (fun s_ => [(16, .agg #[.bool t686, s_])]) (fun s_ w' => (w'.cell? ⟨gb682, 0, none⟩ = some (.int .i64 a0_0) ∧ w'.cell? ⟨gb682, 1, none⟩ = some (.int .i64 a0_1) ∧ w'.cell? ⟨gb683, 0, none⟩ = some (.int .i64 a1_0) ∧ w'.cell? ⟨gb683, 1, none⟩ = some (.int .i64 a1_1)) ∧ (Kd.R (Kd.int .u64) 52 w' w.heap.size (fun _ => True) s_ t687) ∧ (w'.heap[gb682]? = some (.cells #[.int .i64 a0_0, .int .i64 a0_1] 23 (0, 0))) ∧ (w'.heap[gb683]? = some (.cells #[.int .i64 a1_0, .int .i64 a1_1] 23 (0, 0))) ∧ (Below w.heap.size w w')) ?_ ?_
                        rotate_left
                        · intro hJ1
                          refine join_ (σ := Nat) 5 #[true, false, true, false, false, false, true, false] (fun s_ => [(5, .pointer (some ⟨s_, 0, none⟩))]) (fun s_ w' => (w'.cell? ⟨gb682, 0, none⟩ = some (.int .i64 a0_0) ∧ w'.cell? ⟨gb682, 1, none⟩ = some (.int .i64 a0_1) ∧ w'.cell? ⟨gb683, 0, none⟩ = some (.int .i64 a1_0) ∧ w'.cell? ⟨gb683, 1, none⟩ = some (.int .i64 a1_1)) ∧ (w'.heap[gb682]? = some (.cells #[.int .i64 a0_0, .int .i64 a0_1] 23 (0, 0))) ∧ (w'.heap[gb683]? = some (.cells #[.int .i64 a1_0, .int .i64 a1_1] 23 (0, 0))) ∧ (w'.heap[s_]? = some (.cells #[.bool false, .slice none 0 0] 60 (0, 0))) ∧ (w.heap.size ≤ s_) ∧ (w.heap.size ≤ s_) ∧ (gb682 ≠ s_) ∧ (s_ ≠ gb682) ∧ (gb683 ≠ s_) ∧ (s_ ≠ gb683) ∧ (Below w.heap.size w w')) ?_ ?_
                          rotate_left
                          · intro hJ6
                            refine two_ (i := 1) (j := 6) (Ni := some 16) (Nj := some 5) #[true, true, true, false, false, false, false, false] #[true, false, true, false, false, false, true, false] rfl rfl rfl rfl (two_of HT_.out (by kernel_rfl)) (by decide) (by decide) (fun K hK => ?_) (fun K hK => ?_)
                            · skip
                              refine goes_ Try.func46 (by kernel_rfl) rfl #[.agg #[.int .i64 a0_0, .int .i64 a0_1], .int .i64 9] (by rfl) rfl rfl (by (try simp only [List.map_toArray, List.map_cons, List.map_nil]); first | done | rfl | (simp only [List.length_drop, List.length_take]; rfl)) ?_
                              with_reducible refine (computusref04_at.calls kj2 a0_0 a0_1 9 t686 t687 _ A18.out).mono ?_
                              rintro e w40 ⟨v688, rfl, ho0, hb⟩
                              refine ⟨_, rfl, ?_⟩
                              have n0_ := Aside0.mk (Kd.R_lower ho0 (kK (by repeat (first | (with_reducible first | exact HB.out | apply kF | apply kB | apply kG | refine kA ?_ GE682.out | refine kA ?_ GE683.out) | exact HB.out))))
                              have n1_ := Aside0.mk (kI (g := gb682) (o := .cells #[.int .i64 a0_0, .int .i64 a0_1] 23 (0, 0)) (by (with_reducible repeat (first | refine kC ?_ _ | refine kE ?_ | refine kD ?_ _)); exact BK682.out) hb)
                              have n2_ := Aside0.mk (kI (g := gb683) (o := .cells #[.int .i64 a1_0, .int .i64 a1_1] 23 (0, 0)) (by (with_reducible repeat (first | refine kC ?_ _ | refine kE ?_ | refine kD ?_ _)); exact BK683.out) hb)
                              have n3_ := Aside0.mk (kL (by repeat (first | (with_reducible first | exact HB.out | apply kF | apply kB | apply kG | refine kA ?_ GE682.out | refine kA ?_ GE683.out) | exact HB.out)) hb)
                              clear BK682
                              clear BK683
                              clear HB
                              have HO689 := n0_
                              have BK682 := n1_
                              have BK683 := n2_
                              have HB := n3_
                              clear n0_ n1_ n2_ n3_
                              (try clear hb)
                              (try clear hb2)
                              (try clear hk)
                              (try clear hi)
                              (try clear ho0)
                              refine hK.out _ _ ⟨(kH BK682.out 0).trans rfl, (kH BK682.out 1).trans rfl, (kH BK683.out 0).trans rfl, (kH BK683.out 1).trans rfl⟩ (fun hHeld => ?_)
                              clear hK K
                              refine norm_ (a' := ?_) ?_ ?_
                              rotate_left
                              · show Act.put _ (some 16) _ = _
                                simp only [Act.put, List.setIfInBounds_toArray, List.set_cons_zero, List.set_cons_succ, i64_w, i32_w]
                                rfl
                              exact norm_ (by first | (simp only [putAll, Act.put, List.setIfInBounds_toArray, List.set_cons_zero, List.set_cons_succ]; done) | (simp only [putAll, Act.put, List.setIfInBounds_toArray, List.set_cons_zero, List.set_cons_succ]; rfl)) (hJ1 (v688) _ ⟨hHeld, (by (with_reducible repeat (first | apply Kd.R_alloc | apply Kd.R_drewN | apply Kd.R_drew)); exact HO689.out), (by (with_reducible repeat (first | refine kC ?_ _ | refine kE ?_ | refine kD ?_ _)); exact BK682.out), (by (with_reducible repeat (first | refine kC ?_ _ | refine kE ?_ | refine kD ?_ _)); exact BK683.out), (by repeat (first | (with_reducible first | exact HB.out | apply kF | apply kB | apply kG | refine kA ?_ GE682.out | refine kA ?_ GE683.out) | exact HB.out))⟩)
                            · skip
                              refine box_step ?hg (N := 5) ?hd (cs := #[.bool false, .slice none 0 0]) (t := 60) ?hr ?_; (case hd => rfl); (case hg => rfl); (case hr => first | (go_simp; done) | (go_simp; rfl))
                              intro gb702 hg w40 hbox hb
                              have n0_ := Aside0.mk (kI (g := gb682) (o := .cells #[.int .i64 a0_0, .int .i64 a0_1] 23 (0, 0)) (by (with_reducible repeat (first | refine kC ?_ _ | refine kE ?_ | refine kD ?_ _)); exact BK682.out) hb)
                              have n1_ := Aside0.mk (kI (g := gb683) (o := .cells #[.int .i64 a1_0, .int .i64 a1_1] 23 (0, 0)) (by (with_reducible repeat (first | refine kC ?_ _ | refine kE ?_ | refine kD ?_ _)); exact BK683.out) hb)
                              have n2_ := Aside0.mk (kL (by repeat (first | (with_reducible first | exact HB.out | apply kF | apply kB | apply kG | refine kA ?_ GE682.out | refine kA ?_ GE683.out) | exact HB.out)) hb)
                              have n3_ := Aside0.mk (hbox)
                              have n4_ := Aside0.mk ((by rw [hg]; exact (kK (by repeat (first | (with_reducible first | exact HB.out | apply kF | apply kB | apply kG | refine kA ?_ GE682.out | refine kA ?_ GE683.out) | exact HB.out))) : w.heap.size ≤ gb702))
                              have n5_ := Aside0.mk ((by rw [hg]; exact (kK (by repeat (first | (with_reducible first | exact HB.out | apply kF | apply kB | apply kG | refine kA ?_ GE682.out | refine kA ?_ GE683.out) | exact HB.out))) : w.heap.size ≤ gb702))
                              have n6_ := Aside0.mk ((by rw [hg]; exact Nat.ne_of_lt (kM (g := gb682) (o := .cells #[.int .i64 a0_0, .int .i64 a0_1] 23 (0, 0)) (by (with_reducible repeat (first | refine kC ?_ _ | refine kE ?_ | refine kD ?_ _)); exact BK682.out)) : gb682 ≠ gb702))
                              have n7_ := Aside0.mk ((by rw [hg]; exact Nat.ne_of_gt (kM (g := gb682) (o := .cells #[.int .i64 a0_0, .int .i64 a0_1] 23 (0, 0)) (by (with_reducible repeat (first | refine kC ?_ _ | refine kE ?_ | refine kD ?_ _)); exact BK682.out)) : gb702 ≠ gb682))
                              have n8_ := Aside0.mk ((by rw [hg]; exact Nat.ne_of_lt (kM (g := gb683) (o := .cells #[.int .i64 a1_0, .int .i64 a1_1] 23 (0, 0)) (by (with_reducible repeat (first | refine kC ?_ _ | refine kE ?_ | refine kD ?_ _)); exact BK683.out)) : gb683 ≠ gb702))
                              have n9_ := Aside0.mk ((by rw [hg]; exact Nat.ne_of_gt (kM (g := gb683) (o := .cells #[.int .i64 a1_0, .int .i64 a1_1] 23 (0, 0)) (by (with_reducible repeat (first | refine kC ?_ _ | refine kE ?_ | refine kD ?_ _)); exact BK683.out)) : gb702 ≠ gb683))
                              clear BK682
                              clear BK683
                              clear HB
                              have BK682 := n0_
                              have BK683 := n1_
                              have HB := n2_
                              have BK702 := n3_
                              have GW702 := n4_
                              have GE702 := n5_
                              have NB682_702 := n6_
                              have NB702_682 := n7_
                              have NB683_702 := n8_
                              have NB702_683 := n9_
                              clear n0_ n1_ n2_ n3_ n4_ n5_ n6_ n7_ n8_ n9_
                              clear hb hbox hg
                              refine hK.out _ _ ⟨(kH BK682.out 0).trans rfl, (kH BK682.out 1).trans rfl, (kH BK683.out 0).trans rfl, (kH BK683.out 1).trans rfl⟩ (fun hHeld => ?_)
                              clear hK K
                              refine norm_ (a' := ?_) ?_ ?_
                              rotate_left
                              · show Act.put _ (some 5) _ = _
                                simp only [Act.put, List.setIfInBounds_toArray, List.set_cons_zero, List.set_cons_succ, i64_w, i32_w]
                                rfl
                              exact norm_ (by first | (simp only [putAll, Act.put, List.setIfInBounds_toArray, List.set_cons_zero, List.set_cons_succ]; done) | (simp only [putAll, Act.put, List.setIfInBounds_toArray, List.set_cons_zero, List.set_cons_succ]; rfl)) (hJ6 (gb702) _ ⟨hHeld, (by (with_reducible repeat (first | refine kC ?_ _ | refine kE ?_ | refine kD ?_ _)); exact BK682.out), (by (with_reducible repeat (first | refine kC ?_ _ | refine kE ?_ | refine kD ?_ _)); exact BK683.out), (by (with_reducible repeat (first | refine kC ?_ _ | refine kE ?_ | refine kD ?_ _)); exact BK702.out), GW702.out, GE702.out, NB682_702.out, NB702_682.out, NB683_702.out, NB702_683.out, (by repeat (first | (with_reducible first | exact HB.out | apply kF | apply kB | apply kG | refine kA ?_ GE682.out | refine kA ?_ GE683.out | refine kA ?_ GE702.out) | exact HB.out))⟩)
                          · skip
                            rintro gb702 w41 ⟨hS_, h0_, h1_, h2_, h3_, h4_, h5_, h6_, h7_, h8_, h9_⟩
                            have n0_ : Aside0 (w41.heap[gb682]? = some (.cells #[.int .i64 a0_0, .int .i64 a0_1] 23 (0, 0))) := ⟨h0_⟩
                            have n1_ : Aside0 (w41.heap[gb683]? = some (.cells #[.int .i64 a1_0, .int .i64 a1_1] 23 (0, 0))) := ⟨h1_⟩
                            have n2_ : Aside0 (w41.heap[gb702]? = some (.cells #[.bool false, .slice none 0 0] 60 (0, 0))) := ⟨h2_⟩
                            have n3_ : Aside0 (w.heap.size ≤ gb702) := ⟨h3_⟩
                            have n4_ : Aside0 (w.heap.size ≤ gb702) := ⟨h4_⟩
                            have n5_ : Aside0 (gb682 ≠ gb702) := ⟨h5_⟩
                            have n6_ : Aside0 (gb702 ≠ gb682) := ⟨h6_⟩
                            have n7_ : Aside0 (gb683 ≠ gb702) := ⟨h7_⟩
                            have n8_ : Aside0 (gb702 ≠ gb683) := ⟨h8_⟩
                            have n9_ : Aside0 (Below w.heap.size w w41) := ⟨h9_⟩
                            clear BK682
                            clear BK683
                            clear HB
                            clear h0_ h1_ h2_ h3_ h4_ h5_ h6_ h7_ h8_ h9_
                            have BK682 := n0_
                            have BK683 := n1_
                            have BK702 := n2_
                            have GW702 := n3_
                            have GE702 := n4_
                            have NB682_702 := n5_
                            have NB702_682 := n6_
                            have NB683_702 := n7_
                            have NB702_683 := n8_
                            have HB := n9_
                            clear n0_ n1_ n2_ n3_ n4_ n5_ n6_ n7_ n8_ n9_
                            have hHeld : w41.cell? ⟨gb682, 0, none⟩ = some (.int .i64 a0_0) ∧ w41.cell? ⟨gb682, 1, none⟩ = some (.int .i64 a0_1) ∧ w41.cell? ⟨gb683, 0, none⟩ = some (.int .i64 a1_0) ∧ w41.cell? ⟨gb683, 1, none⟩ = some (.int .i64 a1_1) := hS_
                            refine norm_ (a' := ?_) ?_ ?_
                            rotate_left
                            · simp only [putAll, Act.put, List.setIfInBounds_toArray, List.set_cons_zero, List.set_cons_succ]
                              rfl
                            refine one_ (i := 1) (N := some 16) #[true, true, true, false, false, false, true, false] rfl rfl (one_of HT_.out (by kernel_rfl)) (by decide) (fun K hK => ?_)
                            refine goes_ Try.func46 (by kernel_rfl) rfl #[.agg #[.int .i64 a0_0, .int .i64 a0_1], .int .i64 9] (by rfl) rfl rfl (by (try simp only [List.map_toArray, List.map_cons, List.map_nil]); first | done | rfl | (simp only [List.length_drop, List.length_take]; rfl)) ?_
                            with_reducible refine (computusref04_at.calls kj2 a0_0 a0_1 9 t686 t687 _ A18.out).mono ?_
                            rintro e w42 ⟨v688, rfl, ho0, hb⟩
                            refine ⟨_, rfl, ?_⟩
                            have n0_ := Aside0.mk (Kd.R_lower ho0 (kK (by repeat (first | (with_reducible first | exact HB.out | apply kF | apply kB | apply kG | refine kA ?_ GE682.out | refine kA ?_ GE683.out | refine kA ?_ GE702.out) | exact HB.out))))
                            have n1_ := Aside0.mk (kI (g := gb682) (o := .cells #[.int .i64 a0_0, .int .i64 a0_1] 23 (0, 0)) (by (with_reducible repeat (first | refine kC ?_ _ | refine kE ?_ | refine kD ?_ _)); exact BK682.out) hb)
                            have n2_ := Aside0.mk (kI (g := gb683) (o := .cells #[.int .i64 a1_0, .int .i64 a1_1] 23 (0, 0)) (by (with_reducible repeat (first | refine kC ?_ _ | refine kE ?_ | refine kD ?_ _)); exact BK683.out) hb)
                            have n3_ := Aside0.mk (kI (g := gb702) (o := .cells #[.bool false, .slice none 0 0] 60 (0, 0)) (by (with_reducible repeat (first | refine kC ?_ _ | refine kE ?_ | refine kD ?_ _)); exact BK702.out) hb)
                            have n4_ := Aside0.mk (kL (by repeat (first | (with_reducible first | exact HB.out | apply kF | apply kB | apply kG | refine kA ?_ GE682.out | refine kA ?_ GE683.out | refine kA ?_ GE702.out) | exact HB.out)) hb)
                            clear BK682
                            clear BK683
                            clear BK702
                            clear HB
                            have HO689 := n0_
                            have BK682 := n1_
                            have BK683 := n2_
                            have BK702 := n3_
                            have HB := n4_
                            clear n0_ n1_ n2_ n3_ n4_
                            (try clear hb)
                            (try clear hb2)
                            (try clear hk)
                            (try clear hi)
                            (try clear ho0)
                            refine hK.out _ _ ⟨(kH BK682.out 0).trans rfl, (kH BK682.out 1).trans rfl, (kH BK683.out 0).trans rfl, (kH BK683.out 1).trans rfl⟩ (fun hHeld => ?_)
                            clear hK K
                            refine norm_ (a' := ?_) ?_ ?_
                            rotate_left
                            · show Act.put _ (some 16) _ = _
                              simp only [Act.put, List.setIfInBounds_toArray, List.set_cons_zero, List.set_cons_succ, i64_w, i32_w]
                              rfl
                            exact norm_ (by first | (simp only [putAll, Act.put, List.setIfInBounds_toArray, List.set_cons_zero, List.set_cons_succ]; done) | (simp only [putAll, Act.put, List.setIfInBounds_toArray, List.set_cons_zero, List.set_cons_succ]; rfl)) (hJ1_6 (v688, gb702) _ ⟨hHeld, (by (with_reducible repeat (first | apply Kd.R_alloc | apply Kd.R_drewN | apply Kd.R_drew)); exact HO689.out), (by (with_reducible repeat (first | refine kC ?_ _ | refine kE ?_ | refine kD ?_ _)); exact BK682.out), (by (with_reducible repeat (first | refine kC ?_ _ | refine kE ?_ | refine kD ?_ _)); exact BK683.out), (by (with_reducible repeat (first | refine kC ?_ _ | refine kE ?_ | refine kD ?_ _)); exact BK702.out), GW702.out, GE702.out, NB682_702.out, NB702_682.out, NB683_702.out, NB702_683.out, (by repeat (first | (with_reducible first | exact HB.out | apply kF | apply kB | apply kG | refine kA ?_ GE682.out | refine kA ?_ GE683.out | refine kA ?_ GE702.out) | exact HB.out))⟩)
                        · skip
                          rintro v688 w41 ⟨hS_, h0_, h1_, h2_, h3_⟩
                          have n0_ : Aside0 (Kd.R (Kd.int .u64) 52 w41 w.heap.size (fun _ => True) v688 t687) := ⟨h0_⟩
                          have n1_ : Aside0 (w41.heap[gb682]? = some (.cells #[.int .i64 a0_0, .int .i64 a0_1] 23 (0, 0))) := ⟨h1_⟩
                          have n2_ : Aside0 (w41.heap[gb683]? = some (.cells #[.int .i64 a1_0, .int .i64 a1_1] 23 (0, 0))) := ⟨h2_⟩
                          have n3_ : Aside0 (Below w.heap.size w w41) := ⟨h3_⟩
                          clear BK682
                          clear BK683
                          clear HB
                          clear h0_ h1_ h2_ h3_
                          have HO689 := n0_
                          have BK682 := n1_
                          have BK683 := n2_
                          have HB := n3_
                          clear n0_ n1_ n2_ n3_
                          have hHeld : w41.cell? ⟨gb682, 0, none⟩ = some (.int .i64 a0_0) ∧ w41.cell? ⟨gb682, 1, none⟩ = some (.int .i64 a0_1) ∧ w41.cell? ⟨gb683, 0, none⟩ = some (.int .i64 a1_0) ∧ w41.cell? ⟨gb683, 1, none⟩ = some (.int .i64 a1_1) := hS_
                          refine norm_ (a' := ?_) ?_ ?_
                          rotate_left
                          · simp only [putAll, Act.put, List.setIfInBounds_toArray, List.set_cons_zero, List.set_cons_succ]
                            rfl
                          refine two_ (i := 3) (j := 6) (Ni := some 18) (Nj := some 5) #[true, true, true, true, false, false, false, false] #[true, true, true, false, false, false, true, false] rfl rfl rfl rfl (two_of HT_.out (by kernel_rfl)) (by decide) (by decide) (fun K hK => ?_) (fun K hK => ?_)
                          · skip
                            refine goes_ Try.func46 (by kernel_rfl) rfl #[.agg #[.int .i64 a1_0, .int .i64 a1_1], .int .i64 9] (by rfl) rfl rfl (by (try simp only [List.map_toArray, List.map_cons, List.map_nil]); first | done | rfl | (simp only [List.length_drop, List.length_take]; rfl)) ?_
                            with_reducible refine (computusref04_at.calls kj2 a1_0 a1_1 9 t690 t691 _ A19.out).mono ?_
                            rintro e w42 ⟨v692, rfl, ho0, hb⟩
                            refine ⟨_, rfl, ?_⟩
                            have n0_ := Aside0.mk (Kd.R_elder' (by (with_reducible repeat (first | apply Kd.R_alloc | apply Kd.R_drewN | apply Kd.R_drew)); exact HO689.out) (Kd.R_base ho0) hb)
                            have n1_ := Aside0.mk (Kd.R_lower (Kd.R_new' ho0 (Kd.R_lt (by (with_reducible repeat (first | apply Kd.R_alloc | apply Kd.R_drewN | apply Kd.R_drew)); exact HO689.out))) (kK (by repeat (first | (with_reducible first | exact HB.out | apply kF | apply kB | apply kG | refine kA ?_ GE682.out | refine kA ?_ GE683.out) | exact HB.out))))
                            have n2_ := Aside0.mk (kI (g := gb682) (o := .cells #[.int .i64 a0_0, .int .i64 a0_1] 23 (0, 0)) (by (with_reducible repeat (first | refine kC ?_ _ | refine kE ?_ | refine kD ?_ _)); exact BK682.out) hb)
                            have n3_ := Aside0.mk (kI (g := gb683) (o := .cells #[.int .i64 a1_0, .int .i64 a1_1] 23 (0, 0)) (by (with_reducible repeat (first | refine kC ?_ _ | refine kE ?_ | refine kD ?_ _)); exact BK683.out) hb)
                            have n4_ := Aside0.mk (kL (by repeat (first | (with_reducible first | exact HB.out | apply kF | apply kB | apply kG | refine kA ?_ GE682.out | refine kA ?_ GE683.out) | exact HB.out)) hb)
                            clear HO689
                            clear BK682
                            clear BK683
                            clear HB
                            have HO689 := n0_
                            have HO693 := n1_
                            have BK682 := n2_
                            have BK683 := n3_
                            have HB := n4_
                            clear n0_ n1_ n2_ n3_ n4_
                            (try clear hb)
                            (try clear hb2)
                            (try clear hk)
                            (try clear hi)
                            (try clear ho0)
                            refine hK.out _ _ ⟨(kH BK682.out 0).trans rfl, (kH BK682.out 1).trans rfl, (kH BK683.out 0).trans rfl, (kH BK683.out 1).trans rfl⟩ (fun hHeld => ?_)
                            clear hK K
                            refine norm_ (a' := ?_) ?_ ?_
                            rotate_left
                            · show Act.put _ (some 18) _ = _
                              simp only [Act.put, List.setIfInBounds_toArray, List.set_cons_zero, List.set_cons_succ, i64_w, i32_w]
                              rfl
                            exact norm_ (by first | (simp only [putAll, Act.put, List.setIfInBounds_toArray, List.set_cons_zero, List.set_cons_succ]; done) | (simp only [putAll, Act.put, List.setIfInBounds_toArray, List.set_cons_zero, List.set_cons_succ]; rfl)) (hJ1_3 (v688, v692) _ ⟨hHeld, (by (with_reducible repeat (first | apply Kd.R_alloc | apply Kd.R_drewN | apply Kd.R_drew)); exact Kd.R_mono HO689.out (fun _ hk => hk.2)), (by (with_reducible repeat (first | apply Kd.R_alloc | apply Kd.R_drewN | apply Kd.R_drew)); exact Kd.R_mono HO693.out (fun _ hk => hk.2)), (by (with_reducible repeat (first | refine kC ?_ _ | refine kE ?_ | refine kD ?_ _)); exact BK682.out), (by (with_reducible repeat (first | refine kC ?_ _ | refine kE ?_ | refine kD ?_ _)); exact BK683.out), (by repeat (first | (with_reducible first | exact HB.out | apply kF | apply kB | apply kG | refine kA ?_ GE682.out | refine kA ?_ GE683.out) | exact HB.out))⟩)
                          · skip
                            refine box_step ?hg (N := 5) ?hd (cs := #[.bool false, .slice none 0 0]) (t := 60) ?hr ?_; (case hd => rfl); (case hg => rfl); (case hr => first | (go_simp; done) | (go_simp; rfl))
                            intro gb702 hg w42 hbox hb
                            have n0_ := Aside0.mk (Kd.R_below (by (with_reducible repeat (first | apply Kd.R_alloc | apply Kd.R_drewN | apply Kd.R_drew)); exact HO689.out) hb)
                            have n1_ := Aside0.mk (kI (g := gb682) (o := .cells #[.int .i64 a0_0, .int .i64 a0_1] 23 (0, 0)) (by (with_reducible repeat (first | refine kC ?_ _ | refine kE ?_ | refine kD ?_ _)); exact BK682.out) hb)
                            have n2_ := Aside0.mk (kI (g := gb683) (o := .cells #[.int .i64 a1_0, .int .i64 a1_1] 23 (0, 0)) (by (with_reducible repeat (first | refine kC ?_ _ | refine kE ?_ | refine kD ?_ _)); exact BK683.out) hb)
                            have n3_ := Aside0.mk (kL (by repeat (first | (with_reducible first | exact HB.out | apply kF | apply kB | apply kG | refine kA ?_ GE682.out | refine kA ?_ GE683.out) | exact HB.out)) hb)
                            have n4_ := Aside0.mk (hbox)
                            have n5_ := Aside0.mk ((by rw [hg]; exact (kK (by repeat (first | (with_reducible first | exact HB.out | apply kF | apply kB | apply kG | refine kA ?_ GE682.out | refine kA ?_ GE683.out) | exact HB.out))) : w.heap.size ≤ gb702))
                            have n6_ := Aside0.mk ((by rw [hg]; exact (kK (by repeat (first | (with_reducible first | exact HB.out | apply kF | apply kB | apply kG | refine kA ?_ GE682.out | refine kA ?_ GE683.out) | exact HB.out))) : w.heap.size ≤ gb702))
                            have n7_ := Aside0.mk ((by rw [hg]; exact Nat.ne_of_lt (kM (g := gb682) (o := .cells #[.int .i64 a0_0, .int .i64 a0_1] 23 (0, 0)) (by (with_reducible repeat (first | refine kC ?_ _ | refine kE ?_ | refine kD ?_ _)); exact BK682.out)) : gb682 ≠ gb702))
                            have n8_ := Aside0.mk ((by rw [hg]; exact Nat.ne_of_gt (kM (g := gb682) (o := .cells #[.int .i64 a0_0, .int .i64 a0_1] 23 (0, 0)) (by (with_reducible repeat (first | refine kC ?_ _ | refine kE ?_ | refine kD ?_ _)); exact BK682.out)) : gb702 ≠ gb682))
                            have n9_ := Aside0.mk ((by rw [hg]; exact Nat.ne_of_lt (kM (g := gb683) (o := .cells #[.int .i64 a1_0, .int .i64 a1_1] 23 (0, 0)) (by (with_reducible repeat (first | refine kC ?_ _ | refine kE ?_ | refine kD ?_ _)); exact BK683.out)) : gb683 ≠ gb702))
                            have n10_ := Aside0.mk ((by rw [hg]; exact Nat.ne_of_gt (kM (g := gb683) (o := .cells #[.int .i64 a1_0, .int .i64 a1_1] 23 (0, 0)) (by (with_reducible repeat (first | refine kC ?_ _ | refine kE ?_ | refine kD ?_ _)); exact BK683.out)) : gb702 ≠ gb683))
                            clear HO689
                            clear BK682
                            clear BK683
                            clear HB
                            have HO689 := n0_
                            have BK682 := n1_
                            have BK683 := n2_
                            have HB := n3_
                            have BK702 := n4_
                            have GW702 := n5_
                            have GE702 := n6_
                            have NB682_702 := n7_
                            have NB702_682 := n8_
                            have NB683_702 := n9_
                            have NB702_683 := n10_
                            clear n0_ n1_ n2_ n3_ n4_ n5_ n6_ n7_ n8_ n9_ n10_
                            clear hb hbox hg
                            refine hK.out _ _ ⟨(kH BK682.out 0).trans rfl, (kH BK682.out 1).trans rfl, (kH BK683.out 0).trans rfl, (kH BK683.out 1).trans rfl⟩ (fun hHeld => ?_)
                            clear hK K
                            refine norm_ (a' := ?_) ?_ ?_
                            rotate_left
                            · show Act.put _ (some 5) _ = _
                              simp only [Act.put, List.setIfInBounds_toArray, List.set_cons_zero, List.set_cons_succ, i64_w, i32_w]
                              rfl
                            exact norm_ (by first | (simp only [putAll, Act.put, List.setIfInBounds_toArray, List.set_cons_zero, List.set_cons_succ]; done) | (simp only [putAll, Act.put, List.setIfInBounds_toArray, List.set_cons_zero, List.set_cons_succ]; rfl)) (hJ1_6 (v688, gb702) _ ⟨hHeld, (by (with_reducible repeat (first | apply Kd.R_alloc | apply Kd.R_drewN | apply Kd.R_drew)); exact HO689.out), (by (with_reducible repeat (first | refine kC ?_ _ | refine kE ?_ | refine kD ?_ _)); exact BK682.out), (by (with_reducible repeat (first | refine kC ?_ _ | refine kE ?_ | refine kD ?_ _)); exact BK683.out), (by (with_reducible repeat (first | refine kC ?_ _ | refine kE ?_ | refine kD ?_ _)); exact BK702.out), GW702.out, GE702.out, NB682_702.out, NB702_682.out, NB683_702.out, NB702_683.out, (by repeat (first | (with_reducible first | exact HB.out | apply kF | apply kB | apply kG | refine kA ?_ GE682.out | refine kA ?_ GE683.out | refine kA ?_ GE702.out) | exact HB.out))⟩)
                      · skip
                        rintro ⟨v688, gb702⟩ w42 ⟨hS_, h0_, h1_, h2_, h3_, h4_, h5_, h6_, h7_, h8_, h9_, h10_⟩
                        have n0_ : Aside0 (Kd.R (Kd.int .u64) 52 w42 w.heap.size (fun _ => True) v688 t687) := ⟨h0_⟩
                        have n1_ : Aside0 (w42.heap[gb682]? = some (.cells #[.int .i64 a0_0, .int .i64 a0_1] 23 (0, 0))) := ⟨h1_⟩
                        have n2_ : Aside0 (w42.heap[gb683]? = some (.cells #[.int .i64 a1_0, .int .i64 a1_1] 23 (0, 0))) := ⟨h2_⟩
                        have n3_ : Aside0 (w42.heap[gb702]? = some (.cells #[.bool false, .slice none 0 0] 60 (0, 0))) := ⟨h3_⟩
                        have n4_ : Aside0 (w.heap.size ≤ gb702) := ⟨h4_⟩
                        have n5_ : Aside0 (w.heap.size ≤ gb702) := ⟨h5_⟩
                        have n6_ : Aside0 (gb682 ≠ gb702) := ⟨h6_⟩
                        have n7_ : Aside0 (gb702 ≠ gb682) := ⟨h7_⟩
                        have n8_ : Aside0 (gb683 ≠ gb702) := ⟨h8_⟩
                        have n9_ : Aside0 (gb702 ≠ gb683) := ⟨h9_⟩
                        have n10_ : Aside0 (Below w.heap.size w w42) := ⟨h10_⟩
                        clear BK682
                        clear BK683
                        clear HB
                        clear h0_ h1_ h2_ h3_ h4_ h5_ h6_ h7_ h8_ h9_ h10_
                        have HO689 := n0_
                        have BK682 := n1_
                        have BK683 := n2_
                        have BK702 := n3_
                        have GW702 := n4_
                        have GE702 := n5_
                        have NB682_702 := n6_
                        have NB702_682 := n7_
                        have NB683_702 := n8_
                        have NB702_683 := n9_
                        have HB := n10_
                        clear n0_ n1_ n2_ n3_ n4_ n5_ n6_ n7_ n8_ n9_ n10_
                        have hHeld : w42.cell? ⟨gb682, 0, none⟩ = some (.int .i64 a0_0) ∧ w42.cell? ⟨gb682, 1, none⟩ = some (.int .i64 a0_1) ∧ w42.cell? ⟨gb683, 0, none⟩ = some (.int .i64 a1_0) ∧ w42.cell? ⟨gb683, 1, none⟩ = some (.int .i64 a1_1) := hS_
                        refine norm_ (a' := ?_) ?_ ?_
                        rotate_left
                        · simp only [putAll, Act.put, List.setIfInBounds_toArray, List.set_cons_zero, List.set_cons_succ]
                          rfl
                        refine one_ (i := 3) (N := some 18) #[true, true, true, true, false, false, true, false] rfl rfl (one_of HT_.out (by kernel_rfl)) (by decide) (fun K hK => ?_)
                        refine goes_ Try.func46 (by kernel_rfl) rfl #[.agg #[.int .i64 a1_0, .int .i64 a1_1], .int .i64 9] (by rfl) rfl rfl (by (try simp only [List.map_toArray, List.map_cons, List.map_nil]); first | done | rfl | (simp only [List.length_drop, List.length_take]; rfl)) ?_
                        with_reducible refine (computusref04_at.calls kj2 a1_0 a1_1 9 t690 t691 _ A19.out).mono ?_
                        rintro e w43 ⟨v692, rfl, ho0, hb⟩
                        refine ⟨_, rfl, ?_⟩
                        have n0_ := Aside0.mk (Kd.R_elder' (by (with_reducible repeat (first | apply Kd.R_alloc | apply Kd.R_drewN | apply Kd.R_drew)); exact HO689.out) (Kd.R_base ho0) hb)
                        have n1_ := Aside0.mk (Kd.R_lower (Kd.R_new' ho0 (Kd.R_lt (by (with_reducible repeat (first | apply Kd.R_alloc | apply Kd.R_drewN | apply Kd.R_drew)); exact HO689.out))) (kK (by repeat (first | (with_reducible first | exact HB.out | apply kF | apply kB | apply kG | refine kA ?_ GE682.out | refine kA ?_ GE683.out | refine kA ?_ GE702.out) | exact HB.out))))
                        have n2_ := Aside0.mk (kI (g := gb682) (o := .cells #[.int .i64 a0_0, .int .i64 a0_1] 23 (0, 0)) (by (with_reducible repeat (first | refine kC ?_ _ | refine kE ?_ | refine kD ?_ _)); exact BK682.out) hb)
                        have n3_ := Aside0.mk (kI (g := gb683) (o := .cells #[.int .i64 a1_0, .int .i64 a1_1] 23 (0, 0)) (by (with_reducible repeat (first | refine kC ?_ _ | refine kE ?_ | refine kD ?_ _)); exact BK683.out) hb)
                        have n4_ := Aside0.mk (kI (g := gb702) (o := .cells #[.bool false, .slice none 0 0] 60 (0, 0)) (by (with_reducible repeat (first | refine kC ?_ _ | refine kE ?_ | refine kD ?_ _)); exact BK702.out) hb)
                        have n5_ := Aside0.mk (kL (by repeat (first | (with_reducible first | exact HB.out | apply kF | apply kB | apply kG | refine kA ?_ GE682.out | refine kA ?_ GE683.out | refine kA ?_ GE702.out) | exact HB.out)) hb)
                        clear HO689
                        clear BK682
                        clear BK683
                        clear BK702
                        clear HB
                        have HO689 := n0_
                        have HO693 := n1_
                        have BK682 := n2_
                        have BK683 := n3_
                        have BK702 := n4_
                        have HB := n5_
                        clear n0_ n1_ n2_ n3_ n4_ n5_
                        (try clear hb)
                        (try clear hb2)
                        (try clear hk)
                        (try clear hi)
                        (try clear ho0)
                        refine hK.out _ _ ⟨(kH BK682.out 0).trans rfl, (kH BK682.out 1).trans rfl, (kH BK683.out 0).trans rfl, (kH BK683.out 1).trans rfl⟩ (fun hHeld => ?_)
                        clear hK K
                        refine norm_ (a' := ?_) ?_ ?_
                        rotate_left
                        · show Act.put _ (some 18) _ = _
                          simp only [Act.put, List.setIfInBounds_toArray, List.set_cons_zero, List.set_cons_succ, i64_w, i32_w]
                          rfl
                        exact norm_ (by first | (simp only [putAll, Act.put, List.setIfInBounds_toArray, List.set_cons_zero, List.set_cons_succ]; done) | (simp only [putAll, Act.put, List.setIfInBounds_toArray, List.set_cons_zero, List.set_cons_succ]; rfl)) (hJ1_3_6 (v688, v692, gb702) _ ⟨hHeld, (by (with_reducible repeat (first | apply Kd.R_alloc | apply Kd.R_drewN | apply Kd.R_drew)); exact Kd.R_mono HO689.out (fun _ hk => hk.2)), (by (with_reducible repeat (first | apply Kd.R_alloc | apply Kd.R_drewN | apply Kd.R_drew)); exact Kd.R_mono HO693.out (fun _ hk => hk.2)), (by (with_reducible repeat (first | refine kC ?_ _ | refine kE ?_ | refine kD ?_ _)); exact BK682.out), (by (with_reducible repeat (first | refine kC ?_ _ | refine kE ?_ | refine kD ?_ _)); exact BK683.out), (by (with_reducible repeat (first | refine kC ?_ _ | refine kE ?_ | refine kD ?_ _)); exact BK702.out), GW702.out, GE702.out, NB682_702.out, NB702_682.out, NB683_702.out, NB702_683.out, (by repeat (first | (with_reducible first | exact HB.out | apply kF | apply kB | apply kG | refine kA ?_ GE682.out | refine kA ?_ GE683.out | refine kA ?_ GE702.out) | exact HB.out))⟩)
                    · skip
                      rintro ⟨v688, v692⟩ w42 ⟨hS_, h0_, h1_, h2_, h3_, h4_⟩
                      have n0_ : Aside0 (Kd.R (Kd.int .u64) 52 w42 w.heap.size (fun k_ => some k_ ≠ (v692 : Value).ownBlock) v688 t687) := ⟨h0_⟩
                      have n1_ : Aside0 (Kd.R (Kd.int .u64) 52 w42 w.heap.size (fun k_ => some k_ ≠ (v688 : Value).ownBlock) v692 t691) := ⟨h1_⟩
                      have n2_ : Aside0 (w42.heap[gb682]? = some (.cells #[.int .i64 a0_0, .int .i64 a0_1] 23 (0, 0))) := ⟨h2_⟩
                      have n3_ : Aside0 (w42.heap[gb683]? = some (.cells #[.int .i64 a1_0, .int .i64 a1_1] 23 (0, 0))) := ⟨h3_⟩
                      have n4_ : Aside0 (Below w.heap.size w w42) := ⟨h4_⟩
                      clear BK682
                      clear BK683
                      clear HB
                      clear h0_ h1_ h2_ h3_ h4_
                      have HO689 := n0_
                      have HO693 := n1_
                      have BK682 := n2_
                      have BK683 := n3_
                      have HB := n4_
                      clear n0_ n1_ n2_ n3_ n4_
                      have hHeld : w42.cell? ⟨gb682, 0, none⟩ = some (.int .i64 a0_0) ∧ w42.cell? ⟨gb682, 1, none⟩ = some (.int .i64 a0_1) ∧ w42.cell? ⟨gb683, 0, none⟩ = some (.int .i64 a1_0) ∧ w42.cell? ⟨gb683, 1, none⟩ = some (.int .i64 a1_1) := hS_
                      obtain ⟨Ao43, co43, eo43⟩ := Kd.R_slice HO693.out
                      (first | subst eo43 | (injection eo43 with f1_ f2_ f3_; have f4_ := f1_.symm; have f5_ := f3_.symm; clear f1_ f2_ f3_; subst f4_; subst f5_))
                      refine norm_ (a' := ?_) ?_ ?_
                      rotate_left
                      · simp only [putAll, Act.put, List.setIfInBounds_toArray, List.set_cons_zero, List.set_cons_succ]
                        rfl
                      refine two_ (i := 4) (j := 6) (Ni := some 19) (Nj := some 5) #[true, true, true, true, true, false, false, false] #[true, true, true, true, false, false, true, false] rfl rfl rfl rfl (two_of HT_.out (by kernel_rfl)) (by decide) (by decide) (fun K hK => ?_) (fun K hK => ?_)
                      · skip
                        refine goes_ Try.func39 (by kernel_rfl) rfl #[.agg #[.bool t690, .slice Ao43 t691.length co43]] (by rfl) rfl rfl (by (try simp only [List.map_toArray, List.map_cons, List.map_nil]); first | done | rfl | (simp only [List.length_drop, List.length_take]; rfl)) ?_
                        with_reducible refine (computusref01_Minus.calls kj2 t690 (fun k_ => some k_ = (.slice Ao43 t691.length co43 : Value).ownBlock) (.slice Ao43 t691.length co43) t691 t694 t695 w _ ?side1 ?side2 A20.out).mono ?_
                        (case side1 => repeat (first | (with_reducible first | exact HB.out | apply kF | apply kB | apply kG | refine kA ?_ GE682.out | refine kA ?_ GE683.out) | exact HB.out))
                        (case side2 => exact Kd.R_tight rfl HO693.out)
                        rintro e w44 ⟨v696, rfl, ho0, hb, hkp⟩
                        refine ⟨_, rfl, ?_⟩
                        have n0_ := Aside0.mk (blk_kept (by (with_reducible repeat (first | refine kC ?_ _ | refine kE ?_ | refine kD ?_ _)); exact BK682.out) hkp (fun hs_ => (fun e_ => (Kd.R_ne HO693.out BK682.out (by decide)) e_) hs_))
                        have n1_ := Aside0.mk (blk_kept (by (with_reducible repeat (first | refine kC ?_ _ | refine kE ?_ | refine kD ?_ _)); exact BK683.out) hkp (fun hs_ => (fun e_ => (Kd.R_ne HO693.out BK683.out (by decide)) e_) hs_))
                        have n2_ := Aside0.mk (Kd.R_mono (ok' := fun k_ => some k_ ≠ (v696 : Value).ownBlock) (Kd.R_keptB (HO689.out) hkp (fun k_ hk_ hs_ => (hk_) hs_)) (fun k_ hk_ => fun e_ => Or.elim (ho0.1 k_ e_.symm) (fun hs_ => hk_.2.1 hs_) (fun hn_ => Nat.not_le.2 hk_.2.2 hn_)))
                        have n3_ := Aside0.mk (Kd.R_mono (ok' := fun k_ => some k_ ≠ (v688 : Value).ownBlock) ho0 (fun k_ hk_ => Or.elim hk_ (fun hs_ => fun e_ => (((HO689.out).1 k_ e_.symm)) hs_) (fun hn_ => (Kd.fresh' (Kd.R_lt (by (with_reducible repeat (first | apply Kd.R_alloc | apply Kd.R_drewN | apply Kd.R_drew)); exact HO689.out)) k_ hn_))))
                        have n4_ := Aside0.mk (hb)
                        clear BK682
                        clear BK683
                        clear HO689
                        clear HB
                        clear HO693
                        have BK682 := n0_
                        have BK683 := n1_
                        have HO689 := n2_
                        have HO697 := n3_
                        have HB := n4_
                        clear n0_ n1_ n2_ n3_ n4_
                        (try clear hb)
                        (try clear hkp)
                        (try clear ho0)
                        refine hK.out _ _ ⟨(kH BK682.out 0).trans rfl, (kH BK682.out 1).trans rfl, (kH BK683.out 0).trans rfl, (kH BK683.out 1).trans rfl⟩ (fun hHeld => ?_)
                        clear hK K
                        refine norm_ (a' := ?_) ?_ ?_
                        rotate_left
                        · show Act.put _ (some 19) _ = _
                          simp only [Act.put, List.setIfInBounds_toArray, List.set_cons_zero, List.set_cons_succ, i64_w, i32_w]
                          rfl
                        exact norm_ (by first | (simp only [putAll, Act.put, List.setIfInBounds_toArray, List.set_cons_zero, List.set_cons_succ]; done) | (simp only [putAll, Act.put, List.setIfInBounds_toArray, List.set_cons_zero, List.set_cons_succ]; rfl)) (hJ1_3_4 (v688, .slice Ao43 t691.length co43, v696) _ ⟨hHeld, (by (with_reducible repeat (first | apply Kd.R_alloc | apply Kd.R_drewN | apply Kd.R_drew)); exact HO689.out), (by (with_reducible repeat (first | apply Kd.R_alloc | apply Kd.R_drewN | apply Kd.R_drew)); exact HO697.out), (by (with_reducible repeat (first | refine kC ?_ _ | refine kE ?_ | refine kD ?_ _)); exact BK682.out), (by (with_reducible repeat (first | refine kC ?_ _ | refine kE ?_ | refine kD ?_ _)); exact BK683.out), (by repeat (first | (with_reducible first | exact HB.out | apply kF | apply kB | apply kG | refine kA ?_ GE682.out | refine kA ?_ GE683.out) | exact HB.out))⟩)
                      · skip
                        refine box_step ?hg (N := 5) ?hd (cs := #[.bool false, .slice none 0 0]) (t := 60) ?hr ?_; (case hd => rfl); (case hg => rfl); (case hr => first | (go_simp; done) | (go_simp; rfl))
                        intro gb702 hg w43 hbox hb
                        have n0_ := Aside0.mk (Kd.R_below (by (with_reducible repeat (first | apply Kd.R_alloc | apply Kd.R_drewN | apply Kd.R_drew)); exact HO689.out) hb)
                        have n1_ := Aside0.mk (Kd.R_below (by (with_reducible repeat (first | apply Kd.R_alloc | apply Kd.R_drewN | apply Kd.R_drew)); exact HO693.out) hb)
                        have n2_ := Aside0.mk (kI (g := gb682) (o := .cells #[.int .i64 a0_0, .int .i64 a0_1] 23 (0, 0)) (by (with_reducible repeat (first | refine kC ?_ _ | refine kE ?_ | refine kD ?_ _)); exact BK682.out) hb)
                        have n3_ := Aside0.mk (kI (g := gb683) (o := .cells #[.int .i64 a1_0, .int .i64 a1_1] 23 (0, 0)) (by (with_reducible repeat (first | refine kC ?_ _ | refine kE ?_ | refine kD ?_ _)); exact BK683.out) hb)
                        have n4_ := Aside0.mk (kL (by repeat (first | (with_reducible first | exact HB.out | apply kF | apply kB | apply kG | refine kA ?_ GE682.out | refine kA ?_ GE683.out) | exact HB.out)) hb)
                        have n5_ := Aside0.mk (hbox)
                        have n6_ := Aside0.mk ((by rw [hg]; exact (kK (by repeat (first | (with_reducible first | exact HB.out | apply kF | apply kB | apply kG | refine kA ?_ GE682.out | refine kA ?_ GE683.out) | exact HB.out))) : w.heap.size ≤ gb702))
                        have n7_ := Aside0.mk ((by rw [hg]; exact (kK (by repeat (first | (with_reducible first | exact HB.out | apply kF | apply kB | apply kG | refine kA ?_ GE682.out | refine kA ?_ GE683.out) | exact HB.out))) : w.heap.size ≤ gb702))
                        have n8_ := Aside0.mk ((by rw [hg]; exact Nat.ne_of_lt (kM (g := gb682) (o := .cells #[.int .i64 a0_0, .int .i64 a0_1] 23 (0, 0)) (by (with_reducible repeat (first | refine kC ?_ _ | refine kE ?_ | refine kD ?_ _)); exact BK682.out)) : gb682 ≠ gb702))
                        have n9_ := Aside0.mk ((by rw [hg]; exact Nat.ne_of_gt (kM (g := gb682) (o := .cells #[.int .i64 a0_0, .int .i64 a0_1] 23 (0, 0)) (by (with_reducible repeat (first | refine kC ?_ _ | refine kE ?_ | refine kD ?_ _)); exact BK682.out)) : gb702 ≠ gb682))
                        have n10_ := Aside0.mk ((by rw [hg]; exact Nat.ne_of_lt (kM (g := gb683) (o := .cells #[.int .i64 a1_0, .int .i64 a1_1] 23 (0, 0)) (by (with_reducible repeat (first | refine kC ?_ _ | refine kE ?_ | refine kD ?_ _)); exact BK683.out)) : gb683 ≠ gb702))
                        have n11_ := Aside0.mk ((by rw [hg]; exact Nat.ne_of_gt (kM (g := gb683) (o := .cells #[.int .i64 a1_0, .int .i64 a1_1] 23 (0, 0)) (by (with_reducible repeat (first | refine kC ?_ _ | refine kE ?_ | refine kD ?_ _)); exact BK683.out)) : gb702 ≠ gb683))
                        clear HO689
                        clear HO693
                        clear BK682
                        clear BK683
                        clear HB
                        have HO689 := n0_
                        have HO693 := n1_
                        have BK682 := n2_
                        have BK683 := n3_
                        have HB := n4_
                        have BK702 := n5_
                        have GW702 := n6_
                        have GE702 := n7_
                        have NB682_702 := n8_
                        have NB702_682 := n9_
                        have NB683_702 := n10_
                        have NB702_683 := n11_
                        clear n0_ n1_ n2_ n3_ n4_ n5_ n6_ n7_ n8_ n9_ n10_ n11_
                        clear hb hbox hg
                        refine hK.out _ _ ⟨(kH BK682.out 0).trans rfl, (kH BK682.out 1).trans rfl, (kH BK683.out 0).trans rfl, (kH BK683.out 1).trans rfl⟩ (fun hHeld => ?_)
                        clear hK K
                        refine norm_ (a' := ?_) ?_ ?_
                        rotate_left
                        · show Act.put _ (some 5) _ = _
                          simp only [Act.put, List.setIfInBounds_toArray, List.set_cons_zero, List.set_cons_succ, i64_w, i32_w]
                          rfl
                        exact norm_ (by first | (simp only [putAll, Act.put, List.setIfInBounds_toArray, List.set_cons_zero, List.set_cons_succ]; done) | (simp only [putAll, Act.put, List.setIfInBounds_toArray, List.set_cons_zero, List.set_cons_succ]; rfl)) (hJ1_3_6 (v688, (.slice Ao43 t691.length co43), gb702) _ ⟨hHeld, (by (with_reducible repeat (first | apply Kd.R_alloc | apply Kd.R_drewN | apply Kd.R_drew)); exact HO689.out), (by (with_reducible repeat (first | apply Kd.R_alloc | apply Kd.R_drewN | apply Kd.R_drew)); exact HO693.out), (by (with_reducible repeat (first | refine kC ?_ _ | refine kE ?_ | refine kD ?_ _)); exact BK682.out), (by (with_reducible repeat (first | refine kC ?_ _ | refine kE ?_ | refine kD ?_ _)); exact BK683.out), (by (with_reducible repeat (first | refine kC ?_ _ | refine kE ?_ | refine kD ?_ _)); exact BK702.out), GW702.out, GE702.out, NB682_702.out, NB702_682.out, NB683_702.out, NB702_683.out, (by repeat (first | (with_reducible first | exact HB.out | apply kF | apply kB | apply kG | refine kA ?_ GE682.out | refine kA ?_ GE683.out | refine kA ?_ GE702.out) | exact HB.out))⟩)
                  · skip
                    rintro ⟨v688, v692, gb702⟩ w43 ⟨hS_, h0_, h1_, h2_, h3_, h4_, h5_, h6_, h7_, h8_, h9_, h10_, h11_⟩
                    have n0_ : Aside0 (Kd.R (Kd.int .u64) 52 w43 w.heap.size (fun k_ => some k_ ≠ (v692 : Value).ownBlock) v688 t687) := ⟨h0_⟩
                    have n1_ : Aside0 (Kd.R (Kd.int .u64) 52 w43 w.heap.size (fun k_ => some k_ ≠ (v688 : Value).ownBlock) v692 t691) := ⟨h1_⟩
                    have n2_ : Aside0 (w43.heap[gb682]? = some (.cells #[.int .i64 a0_0, .int .i64 a0_1] 23 (0, 0))) := ⟨h2_⟩
                    have n3_ : Aside0 (w43.heap[gb683]? = some (.cells #[.int .i64 a1_0, .int .i64 a1_1] 23 (0, 0))) := ⟨h3_⟩
                    have n4_ : Aside0 (w43.heap[gb702]? = some (.cells #[.bool false, .slice none 0 0] 60 (0, 0))) := ⟨h4_⟩
                    have n5_ : Aside0 (w.heap.size ≤ gb702) := ⟨h5_⟩
                    have n6_ : Aside0 (w.heap.size ≤ gb702) := ⟨h6_⟩
                    have n7_ : Aside0 (gb682 ≠ gb702) := ⟨h7_⟩
                    have n8_ : Aside0 (gb702 ≠ gb682) := ⟨h8_⟩
                    have n9_ : Aside0 (gb683 ≠ gb702) := ⟨h9_⟩
                    have n10_ : Aside0 (gb702 ≠ gb683) := ⟨h10_⟩
                    have n11_ : Aside0 (Below w.heap.size w w43) := ⟨h11_⟩
                    clear BK682
                    clear BK683
                    clear HB
                    clear h0_ h1_ h2_ h3_ h4_ h5_ h6_ h7_ h8_ h9_ h10_ h11_
                    have HO689 := n0_
                    have HO693 := n1_
                    have BK682 := n2_
                    have BK683 := n3_
                    have BK702 := n4_
                    have GW702 := n5_
                    have GE702 := n6_
                    have NB682_702 := n7_
                    have NB702_682 := n8_
                    have NB683_702 := n9_
                    have NB702_683 := n10_
                    have HB := n11_
                    clear n0_ n1_ n2_ n3_ n4_ n5_ n6_ n7_ n8_ n9_ n10_ n11_
                    have hHeld : w43.cell? ⟨gb682, 0, none⟩ = some (.int .i64 a0_0) ∧ w43.cell? ⟨gb682, 1, none⟩ = some (.int .i64 a0_1) ∧ w43.cell? ⟨gb683, 0, none⟩ = some (.int .i64 a1_0) ∧ w43.cell? ⟨gb683, 1, none⟩ = some (.int .i64 a1_1) := hS_
                    obtain ⟨Ao44, co44, eo44⟩ := Kd.R_slice HO693.out
                    (first | subst eo44 | (injection eo44 with f1_ f2_ f3_; have f4_ := f1_.symm; have f5_ := f3_.symm; clear f1_ f2_ f3_; subst f4_; subst f5_))
                    refine norm_ (a' := ?_) ?_ ?_
                    rotate_left
                    · simp only [putAll, Act.put, List.setIfInBounds_toArray, List.set_cons_zero, List.set_cons_succ]
                      rfl
                    refine one_ (i := 4) (N := some 19) #[true, true, true, true, true, false, true, false] rfl rfl (one_of HT_.out (by kernel_rfl)) (by decide) (fun K hK => ?_)
                    refine goes_ Try.func39 (by kernel_rfl) rfl #[.agg #[.bool t690, .slice Ao44 t691.length co44]] (by rfl) rfl rfl (by (try simp only [List.map_toArray, List.map_cons, List.map_nil]); first | done | rfl | (simp only [List.length_drop, List.length_take]; rfl)) ?_
                    with_reducible refine (computusref01_Minus.calls kj2 t690 (fun k_ => some k_ = (.slice Ao44 t691.length co44 : Value).ownBlock) (.slice Ao44 t691.length co44) t691 t694 t695 w _ ?side1 ?side2 A20.out).mono ?_
                    (case side1 => repeat (first | (with_reducible first | exact HB.out | apply kF | apply kB | apply kG | refine kA ?_ GE682.out | refine kA ?_ GE683.out | refine kA ?_ GE702.out) | exact HB.out))
                    (case side2 => exact Kd.R_tight rfl HO693.out)
                    rintro e w45 ⟨v696, rfl, ho0, hb, hkp⟩
                    refine ⟨_, rfl, ?_⟩
                    have n0_ := Aside0.mk (blk_kept (by (with_reducible repeat (first | refine kC ?_ _ | refine kE ?_ | refine kD ?_ _)); exact BK682.out) hkp (fun hs_ => (fun e_ => (Kd.R_ne HO693.out BK682.out (by decide)) e_) hs_))
                    have n1_ := Aside0.mk (blk_kept (by (with_reducible repeat (first | refine kC ?_ _ | refine kE ?_ | refine kD ?_ _)); exact BK683.out) hkp (fun hs_ => (fun e_ => (Kd.R_ne HO693.out BK683.out (by decide)) e_) hs_))
                    have n2_ := Aside0.mk (Kd.R_mono (ok' := fun k_ => some k_ ≠ (v696 : Value).ownBlock) (Kd.R_keptB (HO689.out) hkp (fun k_ hk_ hs_ => (hk_) hs_)) (fun k_ hk_ => fun e_ => Or.elim (ho0.1 k_ e_.symm) (fun hs_ => hk_.2.1 hs_) (fun hn_ => Nat.not_le.2 hk_.2.2 hn_)))
                    have n3_ := Aside0.mk (blk_kept (by (with_reducible repeat (first | refine kC ?_ _ | refine kE ?_ | refine kD ?_ _)); exact BK702.out) hkp (fun hs_ => (fun e_ => (Kd.R_ne HO693.out BK702.out (by decide)) e_) hs_))
                    have n4_ := Aside0.mk (Kd.R_mono (ok' := fun k_ => some k_ ≠ (v688 : Value).ownBlock) ho0 (fun k_ hk_ => Or.elim hk_ (fun hs_ => fun e_ => (((HO689.out).1 k_ e_.symm)) hs_) (fun hn_ => (Kd.fresh' (Kd.R_lt (by (with_reducible repeat (first | apply Kd.R_alloc | apply Kd.R_drewN | apply Kd.R_drew)); exact HO689.out)) k_ hn_))))
                    have n5_ := Aside0.mk (hb)
                    clear BK682
                    clear BK683
                    clear HO689
                    clear BK702
                    clear HB
                    clear HO693
                    have BK682 := n0_
                    have BK683 := n1_
                    have HO689 := n2_
                    have BK702 := n3_
                    have HO697 := n4_
                    have HB := n5_
                    clear n0_ n1_ n2_ n3_ n4_ n5_
                    (try clear hb)
                    (try clear hkp)
                    (try clear ho0)
                    refine hK.out _ _ ⟨(kH BK682.out 0).trans rfl, (kH BK682.out 1).trans rfl, (kH BK683.out 0).trans rfl, (kH BK683.out 1).trans rfl⟩ (fun hHeld => ?_)
                    clear hK K
                    refine norm_ (a' := ?_) ?_ ?_
                    rotate_left
                    · show Act.put _ (some 19) _ = _
                      simp only [Act.put, List.setIfInBounds_toArray, List.set_cons_zero, List.set_cons_succ, i64_w, i32_w]
                      rfl
                    exact norm_ (by first | (simp only [putAll, Act.put, List.setIfInBounds_toArray, List.set_cons_zero, List.set_cons_succ]; done) | (simp only [putAll, Act.put, List.setIfInBounds_toArray, List.set_cons_zero, List.set_cons_succ]; rfl)) (hJ1_3_4_6 (v688, .slice Ao44 t691.length co44, v696, gb702) _ ⟨hHeld, (by (with_reducible repeat (first | apply Kd.R_alloc | apply Kd.R_drewN | apply Kd.R_drew)); exact HO689.out), (by (with_reducible repeat (first | apply Kd.R_alloc | apply Kd.R_drewN | apply Kd.R_drew)); exact HO697.out), (by (with_reducible repeat (first | refine kC ?_ _ | refine kE ?_ | refine kD ?_ _)); exact BK682.out), (by (with_reducible repeat (first | refine kC ?_ _ | refine kE ?_ | refine kD ?_ _)); exact BK683.out), (by (with_reducible repeat (first | refine kC ?_ _ | refine kE ?_ | refine kD ?_ _)); exact BK702.out), GW702.out, GE702.out, NB682_702.out, NB702_682.out, NB683_702.out, NB702_683.out, (by repeat (first | (with_reducible first | exact HB.out | apply kF | apply kB | apply kG | refine kA ?_ GE682.out | refine kA ?_ GE683.out | refine kA ?_ GE702.out) | exact HB.out))⟩)
                · skip
                  rintro ⟨v688, v692, v696⟩ w44 ⟨hS_, h0_, h1_, h2_, h3_, h4_⟩
                  have n0_ : Aside0 (Kd.R (Kd.int .u64) 52 w44 w.heap.size (fun k_ => some k_ ≠ (v696 : Value).ownBlock) v688 t687) := ⟨h0_⟩
                  have n1_ : Aside0 (Kd.R (Kd.int .u64) 52 w44 w.heap.size (fun k_ => some k_ ≠ (v688 : Value).ownBlock) v696 t695) := ⟨h1_⟩
                  have n2_ : Aside0 (w44.heap[gb682]? = some (.cells #[.int .i64 a0_0, .int .i64 a0_1] 23 (0, 0))) := ⟨h2_⟩
                  have n3_ : Aside0 (w44.heap[gb683]? = some (.cells #[.int .i64 a1_0, .int .i64 a1_1] 23 (0, 0))) := ⟨h3_⟩
                  have n4_ : Aside0 (Below w.heap.size w w44) := ⟨h4_⟩
                  clear BK682
                  clear BK683
                  clear HB
                  clear h0_ h1_ h2_ h3_ h4_
                  have HO689 := n0_
                  have HO697 := n1_
                  have BK682 := n2_
                  have BK683 := n3_
                  have HB := n4_
                  clear n0_ n1_ n2_ n3_ n4_
                  have hHeld : w44.cell? ⟨gb682, 0, none⟩ = some (.int .i64 a0_0) ∧ w44.cell? ⟨gb682, 1, none⟩ = some (.int .i64 a0_1) ∧ w44.cell? ⟨gb683, 0, none⟩ = some (.int .i64 a1_0) ∧ w44.cell? ⟨gb683, 1, none⟩ = some (.int .i64 a1_1) := hS_
                  obtain ⟨Ao45, co45, eo45⟩ := Kd.R_slice HO689.out
                  (first | subst eo45 | (injection eo45 with f1_ f2_ f3_; have f4_ := f1_.symm; have f5_ := f3_.symm; clear f1_ f2_ f3_; subst f4_; subst f5_))
                  obtain ⟨Ao46, co46, eo46⟩ := Kd.R_slice HO697.out
                  (first | subst eo46 | (injection eo46 with f1_ f2_ f3_; have f4_ := f1_.symm; have f5_ := f3_.symm; clear f1_ f2_ f3_; subst f4_; subst f5_))
                  refine norm_ (a' := ?_) ?_ ?_
                  rotate_left
                  · simp only [putAll, Act.put, List.setIfInBounds_toArray, List.set_cons_zero, List.set_cons_succ]
                    rfl
                  refine two_ (i := 5) (j := 6) (Ni := some 20) (Nj := some 5) #[true, true, true, true, true, true, false, false] #[true, true, true, true, true, false, true, false] rfl rfl rfl rfl (two_of HT_.out (by kernel_rfl)) (by decide) (by decide) (fun K hK => ?_) (fun K hK => ?_)
                  · skip
                    refine goes_ Try.func37 (by kernel_rfl) rfl #[.agg #[.bool t686, .slice Ao45 t687.length co45], .agg #[.bool t694, .slice Ao46 t695.length co46]] (by rfl) rfl rfl (by (try simp only [List.map_toArray, List.map_cons, List.map_nil]); first | done | rfl | (simp only [List.length_drop, List.length_take]; rfl)) ?_
                    with_reducible refine (computusref01_Plus.calls kj2 t686 _ _ t687 t694 _ _ t695 false t699 _ ?side1 ?side2 ?side3 ?side4 A21.out).mono ?_
                    (case side1 => repeat (first | exact (Kd.R_reads' HO689.out).2.2 | (with_reducible refine Kd.C_alloc ?_ _) | (with_reducible refine Kd.C_drewN ?_ _) | (with_reducible refine Kd.C_drew ?_)))
                    (case side2 => exact (Kd.R_reads' HO689.out).2.1)
                    (case side3 => repeat (first | exact (Kd.R_reads' HO697.out).2.2 | (with_reducible refine Kd.C_alloc ?_ _) | (with_reducible refine Kd.C_drewN ?_ _) | (with_reducible refine Kd.C_drew ?_)))
                    (case side4 => exact (Kd.R_reads' HO697.out).2.1)
                    rintro e w47 ⟨v700, rfl, ho0, hb⟩
                    refine ⟨_, rfl, ?_⟩
                    have n0_ := Aside0.mk (Kd.R_elder' (by (with_reducible repeat (first | apply Kd.R_alloc | apply Kd.R_drewN | apply Kd.R_drew)); exact HO689.out) (Kd.R_base ho0) hb)
                    have n1_ := Aside0.mk (Kd.R_elder' (by (with_reducible repeat (first | apply Kd.R_alloc | apply Kd.R_drewN | apply Kd.R_drew)); exact HO697.out) (Kd.R_base ho0) hb)
                    have n2_ := Aside0.mk (Kd.R_lower (Kd.R_new' (Kd.R_new' ho0 (Kd.R_lt (by (with_reducible repeat (first | apply Kd.R_alloc | apply Kd.R_drewN | apply Kd.R_drew)); exact HO689.out))) (Kd.R_lt (by (with_reducible repeat (first | apply Kd.R_alloc | apply Kd.R_drewN | apply Kd.R_drew)); exact HO697.out))) (kK (by repeat (first | (with_reducible first | exact HB.out | apply kF | apply kB | apply kG | refine kA ?_ GE682.out | refine kA ?_ GE683.out) | exact HB.out))))
                    have n3_ := Aside0.mk (kI (g := gb682) (o := .cells #[.int .i64 a0_0, .int .i64 a0_1] 23 (0, 0)) (by (with_reducible repeat (first | refine kC ?_ _ | refine kE ?_ | refine kD ?_ _)); exact BK682.out) hb)
                    have n4_ := Aside0.mk (kI (g := gb683) (o := .cells #[.int .i64 a1_0, .int .i64 a1_1] 23 (0, 0)) (by (with_reducible repeat (first | refine kC ?_ _ | refine kE ?_ | refine kD ?_ _)); exact BK683.out) hb)
                    have n5_ := Aside0.mk (kL (by repeat (first | (with_reducible first | exact HB.out | apply kF | apply kB | apply kG | refine kA ?_ GE682.out | refine kA ?_ GE683.out) | exact HB.out)) hb)
                    clear HO689
                    clear HO697
                    clear BK682
                    clear BK683
                    clear HB
                    have HO689 := n0_
                    have HO697 := n1_
                    have HO701 := n2_
                    have BK682 := n3_
                    have BK683 := n4_
                    have HB := n5_
                    clear n0_ n1_ n2_ n3_ n4_ n5_
                    (try clear hb)
                    (try clear hb2)
                    (try clear hk)
                    (try clear hi)
                    (try clear ho0)
                    refine hK.out _ _ ⟨(kH BK682.out 0).trans rfl, (kH BK682.out 1).trans rfl, (kH BK683.out 0).trans rfl, (kH BK683.out 1).trans rfl⟩ (fun hHeld => ?_)
                    clear hK K
                    refine norm_ (a' := ?_) ?_ ?_
                    rotate_left
                    · show Act.put _ (some 20) _ = _
                      simp only [Act.put, List.setIfInBounds_toArray, List.set_cons_zero, List.set_cons_succ, i64_w, i32_w]
                      rfl
                    exact norm_ (by first | (simp only [putAll, Act.put, List.setIfInBounds_toArray, List.set_cons_zero, List.set_cons_succ]; done) | (simp only [putAll, Act.put, List.setIfInBounds_toArray, List.set_cons_zero, List.set_cons_succ]; rfl)) (hJ1_3_4_5 (.slice Ao45 t687.length co45, v692, .slice Ao46 t695.length co46, v700) _ ⟨hHeld, (by (with_reducible repeat (first | apply Kd.R_alloc | apply Kd.R_drewN | apply Kd.R_drew)); exact HO689.out), (by (with_reducible repeat (first | apply Kd.R_alloc | apply Kd.R_drewN | apply Kd.R_drew)); exact HO697.out), (by (with_reducible repeat (first | apply Kd.R_alloc | apply Kd.R_drewN | apply Kd.R_drew)); exact Kd.R_mono HO701.out (fun _ hk => ⟨hk.1.2, hk.2⟩)), (by (with_reducible repeat (first | refine kC ?_ _ | refine kE ?_ | refine kD ?_ _)); exact BK682.out), (by (with_reducible repeat (first | refine kC ?_ _ | refine kE ?_ | refine kD ?_ _)); exact BK683.out), (by repeat (first | (with_reducible first | exact HB.out | apply kF | apply kB | apply kG | refine kA ?_ GE682.out | refine kA ?_ GE683.out) | exact HB.out))⟩)
                  · skip
                    refine box_step ?hg (N := 5) ?hd (cs := #[.bool false, .slice none 0 0]) (t := 60) ?hr ?_; (case hd => rfl); (case hg => rfl); (case hr => first | (go_simp; done) | (go_simp; rfl))
                    intro gb702 hg w45 hbox hb
                    have n0_ := Aside0.mk (Kd.R_below (by (with_reducible repeat (first | apply Kd.R_alloc | apply Kd.R_drewN | apply Kd.R_drew)); exact HO689.out) hb)
                    have n1_ := Aside0.mk (Kd.R_below (by (with_reducible repeat (first | apply Kd.R_alloc | apply Kd.R_drewN | apply Kd.R_drew)); exact HO697.out) hb)
                    have n2_ := Aside0.mk (kI (g := gb682) (o := .cells #[.int .i64 a0_0, .int .i64 a0_1] 23 (0, 0)) (by (with_reducible repeat (first | refine kC ?_ _ | refine kE ?_ | refine kD ?_ _)); exact BK682.out) hb)
                    have n3_ := Aside0.mk (kI (g := gb683) (o := .cells #[.int .i64 a1_0, .int .i64 a1_1] 23 (0, 0)) (by (with_reducible repeat (first | refine kC ?_ _ | refine kE ?_ | refine kD ?_ _)); exact BK683.out) hb)
                    have n4_ := Aside0.mk (kL (by repeat (first | (with_reducible first | exact HB.out | apply kF | apply kB | apply kG | refine kA ?_ GE682.out | refine kA ?_ GE683.out) | exact HB.out)) hb)
                    have n5_ := Aside0.mk (hbox)
                    have n6_ := Aside0.mk ((by rw [hg]; exact (kK (by repeat (first | (with_reducible first | exact HB.out | apply kF | apply kB | apply kG | refine kA ?_ GE682.out | refine kA ?_ GE683.out) | exact HB.out))) : w.heap.size ≤ gb702))
                    have n7_ := Aside0.mk ((by rw [hg]; exact (kK (by repeat (first | (with_reducible first | exact HB.out | apply kF | apply kB | apply kG | refine kA ?_ GE682.out | refine kA ?_ GE683.out) | exact HB.out))) : w.heap.size ≤ gb702))
                    have n8_ := Aside0.mk ((by rw [hg]; exact Nat.ne_of_lt (kM (g := gb682) (o := .cells #[.int .i64 a0_0, .int .i64 a0_1] 23 (0, 0)) (by (with_reducible repeat (first | refine kC ?_ _ | refine kE ?_ | refine kD ?_ _)); exact BK682.out)) : gb682 ≠ gb702))
                    have n9_ := Aside0.mk ((by rw [hg]; exact Nat.ne_of_gt (kM (g := gb682) (o := .cells #[.int .i64 a0_0, .int .i64 a0_1] 23 (0, 0)) (by (with_reducible repeat (first | refine kC ?_ _ | refine kE ?_ | refine kD ?_ _)); exact BK682.out)) : gb702 ≠ gb682))
                    have n10_ := Aside0.mk ((by rw [hg]; exact Nat.ne_of_lt (kM (g := gb683) (o := .cells #[.int .i64 a1_0, .int .i64 a1_1] 23 (0, 0)) (by (with_reducible repeat (first | refine kC ?_ _ | refine kE ?_ | refine kD ?_ _)); exact BK683.out)) : gb683 ≠ gb702))
                    have n11_ := Aside0.mk ((by rw [hg]; exact Nat.ne_of_gt (kM (g := gb683) (o := .cells #[.int .i64 a1_0, .int .i64 a1_1] 23 (0, 0)) (by (with_reducible repeat (first | refine kC ?_ _ | refine kE ?_ | refine kD ?_ _)); exact BK683.out)) : gb702 ≠ gb683))
                    clear HO689
                    clear HO697
                    clear BK682
                    clear BK683
                    clear HB
                    have HO689 := n0_
                    have HO697 := n1_
                    have BK682 := n2_
                    have BK683 := n3_
                    have HB := n4_
                    have BK702 := n5_
                    have GW702 := n6_
                    have GE702 := n7_
                    have NB682_702 := n8_
                    have NB702_682 := n9_
                    have NB683_702 := n10_
                    have NB702_683 := n11_
                    clear n0_ n1_ n2_ n3_ n4_ n5_ n6_ n7_ n8_ n9_ n10_ n11_
                    clear hb hbox hg
                    refine hK.out _ _ ⟨(kH BK682.out 0).trans rfl, (kH BK682.out 1).trans rfl, (kH BK683.out 0).trans rfl, (kH BK683.out 1).trans rfl⟩ (fun hHeld => ?_)
                    clear hK K
                    refine norm_ (a' := ?_) ?_ ?_
                    rotate_left
                    · show Act.put _ (some 5) _ = _
                      simp only [Act.put, List.setIfInBounds_toArray, List.set_cons_zero, List.set_cons_succ, i64_w, i32_w]
                      rfl
                    exact norm_ (by first | (simp only [putAll, Act.put, List.setIfInBounds_toArray, List.set_cons_zero, List.set_cons_succ]; done) | (simp only [putAll, Act.put, List.setIfInBounds_toArray, List.set_cons_zero, List.set_cons_succ]; rfl)) (hJ1_3_4_6 ((.slice Ao45 t687.length co45), v692, (.slice Ao46 t695.length co46), gb702) _ ⟨hHeld, (by (with_reducible repeat (first | apply Kd.R_alloc | apply Kd.R_drewN | apply Kd.R_drew)); exact HO689.out), (by (with_reducible repeat (first | apply Kd.R_alloc | apply Kd.R_drewN | apply Kd.R_drew)); exact HO697.out), (by (with_reducible repeat (first | refine kC ?_ _ | refine kE ?_ | refine kD ?_ _)); exact BK682.out), (by (with_reducible repeat (first | refine kC ?_ _ | refine kE ?_ | refine kD ?_ _)); exact BK683.out), (by (with_reducible repeat (first | refine kC ?_ _ | refine kE ?_ | refine kD ?_ _)); exact BK702.out), GW702.out, GE702.out, NB682_702.out, NB702_682.out, NB683_702.out, NB702_683.out, (by repeat (first | (with_reducible first | exact HB.out | apply kF | apply kB | apply kG | refine kA ?_ GE682.out | refine kA ?_ GE683.out | refine kA ?_ GE702.out) | exact HB.out))⟩)
              · skip
                rintro ⟨v688, v692, v696, gb702⟩ w45 ⟨hS_, h0_, h1_, h2_, h3_, h4_, h5_, h6_, h7_, h8_, h9_, h10_, h11_⟩
                have n0_ : Aside0 (Kd.R (Kd.int .u64) 52 w45 w.heap.size (fun k_ => some k_ ≠ (v696 : Value).ownBlock) v688 t687) := ⟨h0_⟩
                have n1_ : Aside0 (Kd.R (Kd.int .u64) 52 w45 w.heap.size (fun k_ => some k_ ≠ (v688 : Value).ownBlock) v696 t695) := ⟨h1_⟩
                have n2_ : Aside0 (w45.heap[gb682]? = some (.cells #[.int .i64 a0_0, .int .i64 a0_1] 23 (0, 0))) := ⟨h2_⟩
                have n3_ : Aside0 (w45.heap[gb683]? = some (.cells #[.int .i64 a1_0, .int .i64 a1_1] 23 (0, 0))) := ⟨h3_⟩
                have n4_ : Aside0 (w45.heap[gb702]? = some (.cells #[.bool false, .slice none 0 0] 60 (0, 0))) := ⟨h4_⟩
                have n5_ : Aside0 (w.heap.size ≤ gb702) := ⟨h5_⟩
                have n6_ : Aside0 (w.heap.size ≤ gb702) := ⟨h6_⟩
                have n7_ : Aside0 (gb682 ≠ gb702) := ⟨h7_⟩
                have n8_ : Aside0 (gb702 ≠ gb682) := ⟨h8_⟩
                have n9_ : Aside0 (gb683 ≠ gb702) := ⟨h9_⟩
                have n10_ : Aside0 (gb702 ≠ gb683) := ⟨h10_⟩
                have n11_ : Aside0 (Below w.heap.size w w45) := ⟨h11_⟩
                clear BK682
                clear BK683
                clear HB
                clear h0_ h1_ h2_ h3_ h4_ h5_ h6_ h7_ h8_ h9_ h10_ h11_
                have HO689 := n0_
                have HO697 := n1_
                have BK682 := n2_
                have BK683 := n3_
                have BK702 := n4_
                have GW702 := n5_
                have GE702 := n6_
                have NB682_702 := n7_
                have NB702_682 := n8_
                have NB683_702 := n9_
                have NB702_683 := n10_
                have HB := n11_
                clear n0_ n1_ n2_ n3_ n4_ n5_ n6_ n7_ n8_ n9_ n10_ n11_
                have hHeld : w45.cell? ⟨gb682, 0, none⟩ = some (.int .i64 a0_0) ∧ w45.cell? ⟨gb682, 1, none⟩ = some (.int .i64 a0_1) ∧ w45.cell? ⟨gb683, 0, none⟩ = some (.int .i64 a1_0) ∧ w45.cell? ⟨gb683, 1, none⟩ = some (.int .i64 a1_1) := hS_
                obtain ⟨Ao46, co46, eo46⟩ := Kd.R_slice HO689.out
                (first | subst eo46 | (injection eo46 with f1_ f2_ f3_; have f4_ := f1_.symm; have f5_ := f3_.symm; clear f1_ f2_ f3_; subst f4_; subst f5_))
                obtain ⟨Ao47, co47, eo47⟩ := Kd.R_slice HO697.out
                (first | subst eo47 | (injection eo47 with f1_ f2_ f3_; have f4_ := f1_.symm; have f5_ := f3_.symm; clear f1_ f2_ f3_; subst f4_; subst f5_))
                refine norm_ (a' := ?_) ?_ ?_
                rotate_left
                · simp only [putAll, Act.put, List.setIfInBounds_toArray, List.set_cons_zero, List.set_cons_succ]
                  rfl
                refine one_ (i := 5) (N := some 20) #[true, true, true, true, true, true, true, false] rfl rfl (one_of HT_.out (by kernel_rfl)) (by decide) (fun K hK => ?_)
                refine goes_ Try.func37 (by kernel_rfl) rfl #[.agg #[.bool t686, .slice Ao46 t687.length co46], .agg #[.bool t694, .slice Ao47 t695.length co47]] (by rfl) rfl rfl (by (try simp only [List.map_toArray, List.map_cons, List.map_nil]); first | done | rfl | (simp only [List.length_drop, List.length_take]; rfl)) ?_
                with_reducible refine (computusref01_Plus.calls kj2 t686 _ _ t687 t694 _ _ t695 false t699 _ ?side1 ?side2 ?side3 ?side4 A21.out).mono ?_
                (case side1 => repeat (first | exact (Kd.R_reads' HO689.out).2.2 | (with_reducible refine Kd.C_alloc ?_ _) | (with_reducible refine Kd.C_drewN ?_ _) | (with_reducible refine Kd.C_drew ?_)))
                (case side2 => exact (Kd.R_reads' HO689.out).2.1)
                (case side3 => repeat (first | exact (Kd.R_reads' HO697.out).2.2 | (with_reducible refine Kd.C_alloc ?_ _) | (with_reducible refine Kd.C_drewN ?_ _) | (with_reducible refine Kd.C_drew ?_)))
                (case side4 => exact (Kd.R_reads' HO697.out).2.1)
                rintro e w48 ⟨v700, rfl, ho0, hb⟩
                refine ⟨_, rfl, ?_⟩
                have n0_ := Aside0.mk (Kd.R_elder' (by (with_reducible repeat (first | apply Kd.R_alloc | apply Kd.R_drewN | apply Kd.R_drew)); exact HO689.out) (Kd.R_base ho0) hb)
                have n1_ := Aside0.mk (Kd.R_elder' (by (with_reducible repeat (first | apply Kd.R_alloc | apply Kd.R_drewN | apply Kd.R_drew)); exact HO697.out) (Kd.R_base ho0) hb)
                have n2_ := Aside0.mk (Kd.R_lower (Kd.R_new' (Kd.R_new' ho0 (Kd.R_lt (by (with_reducible repeat (first | apply Kd.R_alloc | apply Kd.R_drewN | apply Kd.R_drew)); exact HO689.out))) (Kd.R_lt (by (with_reducible repeat (first | apply Kd.R_alloc | apply Kd.R_drewN | apply Kd.R_drew)); exact HO697.out))) (kK (by repeat (first | (with_reducible first | exact HB.out | apply kF | apply kB | apply kG | refine kA ?_ GE682.out | refine kA ?_ GE683.out | refine kA ?_ GE702.out) | exact HB.out))))
                have n3_ := Aside0.mk (kI (g := gb682) (o := .cells #[.int .i64 a0_0, .int .i64 a0_1] 23 (0, 0)) (by (with_reducible repeat (first | refine kC ?_ _ | refine kE ?_ | refine kD ?_ _)); exact BK682.out) hb)
                have n4_ := Aside0.mk (kI (g := gb683) (o := .cells #[.int .i64 a1_0, .int .i64 a1_1] 23 (0, 0)) (by (with_reducible repeat (first | refine kC ?_ _ | refine kE ?_ | refine kD ?_ _)); exact BK683.out) hb)
                have n5_ := Aside0.mk (kI (g := gb702) (o := .cells #[.bool false, .slice none 0 0] 60 (0, 0)) (by (with_reducible repeat (first | refine kC ?_ _ | refine kE ?_ | refine kD ?_ _)); exact BK702.out) hb)
                have n6_ := Aside0.mk (kL (by repeat (first | (with_reducible first | exact HB.out | apply kF | apply kB | apply kG | refine kA ?_ GE682.out | refine kA ?_ GE683.out | refine kA ?_ GE702.out) | exact HB.out)) hb)
                clear HO689
                clear HO697
                clear BK682
                clear BK683
                clear BK702
                clear HB
                have HO689 := n0_
                have HO697 := n1_
                have HO701 := n2_
                have BK682 := n3_
                have BK683 := n4_
                have BK702 := n5_
                have HB := n6_
                clear n0_ n1_ n2_ n3_ n4_ n5_ n6_
                (try clear hb)
                (try clear hb2)
                (try clear hk)
                (try clear hi)
                (try clear ho0)
                refine hK.out _ _ ⟨(kH BK682.out 0).trans rfl, (kH BK682.out 1).trans rfl, (kH BK683.out 0).trans rfl, (kH BK683.out 1).trans rfl⟩ (fun hHeld => ?_)
                clear hK K
                refine norm_ (a' := ?_) ?_ ?_
                rotate_left
                · show Act.put _ (some 20) _ = _
                  simp only [Act.put, List.setIfInBounds_toArray, List.set_cons_zero, List.set_cons_succ, i64_w, i32_w]
                  rfl
                exact norm_ (by first | (simp only [putAll, Act.put, List.setIfInBounds_toArray, List.set_cons_zero, List.set_cons_succ]; done) | (simp only [putAll, Act.put, List.setIfInBounds_toArray, List.set_cons_zero, List.set_cons_succ]; rfl)) (hJ1_3_4_5_6 (.slice Ao46 t687.length co46, v692, .slice Ao47 t695.length co47, v700, gb702) _ ⟨hHeld, (by (with_reducible repeat (first | apply Kd.R_alloc | apply Kd.R_drewN | apply Kd.R_drew)); exact HO689.out), (by (with_reducible repeat (first | apply Kd.R_alloc | apply Kd.R_drewN | apply Kd.R_drew)); exact HO697.out), (by (with_reducible repeat (first | apply Kd.R_alloc | apply Kd.R_drewN | apply Kd.R_drew)); exact Kd.R_mono HO701.out (fun _ hk => ⟨hk.1.2, hk.2⟩)), (by (with_reducible repeat (first | refine kC ?_ _ | refine kE ?_ | refine kD ?_ _)); exact BK682.out), (by (with_reducible repeat (first | refine kC ?_ _ | refine kE ?_ | refine kD ?_ _)); exact BK683.out), (by (with_reducible repeat (first | refine kC ?_ _ | refine kE ?_ | refine kD ?_ _)); exact BK702.out), GW702.out, GE702.out, NB682_702.out, NB702_682.out, NB683_702.out, NB702_683.out, (by repeat (first | (with_reducible first | exact HB.out | apply kF | apply kB | apply kG | refine kA ?_ GE682.out | refine kA ?_ GE683.out | refine kA ?_ GE702.out) | exact HB.out))⟩)
            · skip
              rintro ⟨v688, v692, v696, v700⟩ w47 ⟨hS_, h0_, h1_, h2_, h3_, h4_, h5_⟩
              have n0_ : Aside0 (Kd.R (Kd.int .u64) 52 w47 w.heap.size (fun k_ => some k_ ≠ (v696 : Value).ownBlock ∧ some k_ ≠ (v700 : Value).ownBlock) v688 t687) := ⟨h0_⟩
              have n1_ : Aside0 (Kd.R (Kd.int .u64) 52 w47 w.heap.size (fun k_ => some k_ ≠ (v688 : Value).ownBlock ∧ some k_ ≠ (v700 : Value).ownBlock) v696 t695) := ⟨h1_⟩
              have n2_ : Aside0 (Kd.R (Kd.int .u64) 52 w47 w.heap.size (fun k_ => some k_ ≠ (v688 : Value).ownBlock ∧ some k_ ≠ (v696 : Value).ownBlock) v700 t699) := ⟨h2_⟩
              have n3_ : Aside0 (w47.heap[gb682]? = some (.cells #[.int .i64 a0_0, .int .i64 a0_1] 23 (0, 0))) := ⟨h3_⟩
              have n4_ : Aside0 (w47.heap[gb683]? = some (.cells #[.int .i64 a1_0, .int .i64 a1_1] 23 (0, 0))) := ⟨h4_⟩
              have n5_ : Aside0 (Below w.heap.size w w47) := ⟨h5_⟩
              clear BK682
              clear BK683
              clear HB
              clear h0_ h1_ h2_ h3_ h4_ h5_
              have HO689 := n0_
              have HO697 := n1_
              have HO701 := n2_
              have BK682 := n3_
              have BK683 := n4_
              have HB := n5_
              clear n0_ n1_ n2_ n3_ n4_ n5_
              have hHeld : w47.cell? ⟨gb682, 0, none⟩ = some (.int .i64 a0_0) ∧ w47.cell? ⟨gb682, 1, none⟩ = some (.int .i64 a0_1) ∧ w47.cell? ⟨gb683, 0, none⟩ = some (.int .i64 a1_0) ∧ w47.cell? ⟨gb683, 1, none⟩ = some (.int .i64 a1_1) := hS_
              refine norm_ (a' := ?_) ?_ ?_
              rotate_left
              · simp only [putAll, Act.put, List.setIfInBounds_toArray, List.set_cons_zero, List.set_cons_succ]
                rfl
              refine one_ (i := 6) (N := some 5) #[true, true, true, true, true, true, true, false] rfl rfl (one_of HT_.out (by kernel_rfl)) (by decide) (fun K hK => ?_)
              refine box_step ?hg (N := 5) ?hd (cs := #[.bool false, .slice none 0 0]) (t := 60) ?hr ?_; (case hd => rfl); (case hg => rfl); (case hr => first | (go_simp; done) | (go_simp; rfl))
              intro gb702 hg w48 hbox hb
              have n0_ := Aside0.mk (Kd.R_below (by (with_reducible repeat (first | apply Kd.R_alloc | apply Kd.R_drewN | apply Kd.R_drew)); exact HO689.out) hb)
              have n1_ := Aside0.mk (Kd.R_below (by (with_reducible repeat (first | apply Kd.R_alloc | apply Kd.R_drewN | apply Kd.R_drew)); exact HO697.out) hb)
              have n2_ := Aside0.mk (Kd.R_below (by (with_reducible repeat (first | apply Kd.R_alloc | apply Kd.R_drewN | apply Kd.R_drew)); exact HO701.out) hb)
              have n3_ := Aside0.mk (kI (g := gb682) (o := .cells #[.int .i64 a0_0, .int .i64 a0_1] 23 (0, 0)) (by (with_reducible repeat (first | refine kC ?_ _ | refine kE ?_ | refine kD ?_ _)); exact BK682.out) hb)
              have n4_ := Aside0.mk (kI (g := gb683) (o := .cells #[.int .i64 a1_0, .int .i64 a1_1] 23 (0, 0)) (by (with_reducible repeat (first | refine kC ?_ _ | refine kE ?_ | refine kD ?_ _)); exact BK683.out) hb)
              have n5_ := Aside0.mk (kL (by repeat (first | (with_reducible first | exact HB.out | apply kF | apply kB | apply kG | refine kA ?_ GE682.out | refine kA ?_ GE683.out) | exact HB.out)) hb)
              have n6_ := Aside0.mk (hbox)
              have n7_ := Aside0.mk ((by rw [hg]; exact (kK (by repeat (first | (with_reducible first | exact HB.out | apply kF | apply kB | apply kG | refine kA ?_ GE682.out | refine kA ?_ GE683.out) | exact HB.out))) : w.heap.size ≤ gb702))
              have n8_ := Aside0.mk ((by rw [hg]; exact (kK (by repeat (first | (with_reducible first | exact HB.out | apply kF | apply kB | apply kG | refine kA ?_ GE682.out | refine kA ?_ GE683.out) | exact HB.out))) : w.heap.size ≤ gb702))
              have n9_ := Aside0.mk ((by rw [hg]; exact Nat.ne_of_lt (kM (g := gb682) (o := .cells #[.int .i64 a0_0, .int .i64 a0_1] 23 (0, 0)) (by (with_reducible repeat (first | refine kC ?_ _ | refine kE ?_ | refine kD ?_ _)); exact BK682.out)) : gb682 ≠ gb702))
              have n10_ := Aside0.mk ((by rw [hg]; exact Nat.ne_of_gt (kM (g := gb682) (o := .cells #[.int .i64 a0_0, .int .i64 a0_1] 23 (0, 0)) (by (with_reducible repeat (first | refine kC ?_ _ | refine kE ?_ | refine kD ?_ _)); exact BK682.out)) : gb702 ≠ gb682))
              have n11_ := Aside0.mk ((by rw [hg]; exact Nat.ne_of_lt (kM (g := gb683) (o := .cells #[.int .i64 a1_0, .int .i64 a1_1] 23 (0, 0)) (by (with_reducible repeat (first | refine kC ?_ _ | refine kE ?_ | refine kD ?_ _)); exact BK683.out)) : gb683 ≠ gb702))
              have n12_ := Aside0.mk ((by rw [hg]; exact Nat.ne_of_gt (kM (g := gb683) (o := .cells #[.int .i64 a1_0, .int .i64 a1_1] 23 (0, 0)) (by (with_reducible repeat (first | refine kC ?_ _ | refine kE ?_ | refine kD ?_ _)); exact BK683.out)) : gb702 ≠ gb683))
              clear HO689
              clear HO697
              clear HO701
              clear BK682
              clear BK683
              clear HB
              have HO689 := n0_
              have HO697 := n1_
              have HO701 := n2_
              have BK682 := n3_
              have BK683 := n4_
              have HB := n5_
              have BK702 := n6_
              have GW702 := n7_
              have GE702 := n8_
              have NB682_702 := n9_
              have NB702_682 := n10_
              have NB683_702 := n11_
              have NB702_683 := n12_
              clear n0_ n1_ n2_ n3_ n4_ n5_ n6_ n7_ n8_ n9_ n10_ n11_ n12_
              clear hb hbox hg
              refine hK.out _ _ ⟨(kH BK682.out 0).trans rfl, (kH BK682.out 1).trans rfl, (kH BK683.out 0).trans rfl, (kH BK683.out 1).trans rfl⟩ (fun hHeld => ?_)
              clear hK K
              refine norm_ (a' := ?_) ?_ ?_
              rotate_left
              · show Act.put _ (some 5) _ = _
                simp only [Act.put, List.setIfInBounds_toArray, List.set_cons_zero, List.set_cons_succ, i64_w, i32_w]
                rfl
              exact norm_ (by first | (simp only [putAll, Act.put, List.setIfInBounds_toArray, List.set_cons_zero, List.set_cons_succ]; done) | (simp only [putAll, Act.put, List.setIfInBounds_toArray, List.set_cons_zero, List.set_cons_succ]; rfl)) (hJ1_3_4_5_6 (v688, v692, v696, v700, gb702) _ ⟨hHeld, (by (with_reducible repeat (first | apply Kd.R_alloc | apply Kd.R_drewN | apply Kd.R_drew)); exact HO689.out), (by (with_reducible repeat (first | apply Kd.R_alloc | apply Kd.R_drewN | apply Kd.R_drew)); exact HO697.out), (by (with_reducible repeat (first | apply Kd.R_alloc | apply Kd.R_drewN | apply Kd.R_drew)); exact HO701.out), (by (with_reducible repeat (first | refine kC ?_ _ | refine kE ?_ | refine kD ?_ _)); exact BK682.out), (by (with_reducible repeat (first | refine kC ?_ _ | refine kE ?_ | refine kD ?_ _)); exact BK683.out), (by (with_reducible repeat (first | refine kC ?_ _ | refine kE ?_ | refine kD ?_ _)); exact BK702.out), GW702.out, GE702.out, NB682_702.out, NB702_682.out, NB683_702.out, NB702_683.out, (by repeat (first | (with_reducible first | exact HB.out | apply kF | apply kB | apply kG | refine kA ?_ GE682.out | refine kA ?_ GE683.out | refine kA ?_ GE702.out) | exact HB.out))⟩)
          rintro ⟨v688, v692, v696, v700, gb702⟩ w48 ⟨hS_, h0_, h1_, h2_, h3_, h4_, h5_, h6_, h7_, h8_, h9_, h10_, h11_, h12_⟩
          have n0_ : Aside0 (Kd.R (Kd.int .u64) 52 w48 w.heap.size (fun k_ => some k_ ≠ (v696 : Value).ownBlock ∧ some k_ ≠ (v700 : Value).ownBlock) v688 t687) := ⟨h0_⟩
          have n1_ : Aside0 (Kd.R (Kd.int .u64) 52 w48 w.heap.size (fun k_ => some k_ ≠ (v688 : Value).ownBlock ∧ some k_ ≠ (v700 : Value).ownBlock) v696 t695) := ⟨h1_⟩
          have n2_ : Aside0 (Kd.R (Kd.int .u64) 52 w48 w.heap.size (fun k_ => some k_ ≠ (v688 : Value).ownBlock ∧ some k_ ≠ (v696 : Value).ownBlock) v700 t699) := ⟨h2_⟩
          have n3_ : Aside0 (w48.heap[gb682]? = some (.cells #[.int .i64 a0_0, .int .i64 a0_1] 23 (0, 0))) := ⟨h3_⟩
          have n4_ : Aside0 (w48.heap[gb683]? = some (.cells #[.int .i64 a1_0, .int .i64 a1_1] 23 (0, 0))) := ⟨h4_⟩
          have n5_ : Aside0 (w48.heap[gb702]? = some (.cells #[.bool false, .slice none 0 0] 60 (0, 0))) := ⟨h5_⟩
          have n6_ : Aside0 (w.heap.size ≤ gb702) := ⟨h6_⟩
          have n7_ : Aside0 (w.heap.size ≤ gb702) := ⟨h7_⟩
          have n8_ : Aside0 (gb682 ≠ gb702) := ⟨h8_⟩
          have n9_ : Aside0 (gb702 ≠ gb682) := ⟨h9_⟩
          have n10_ : Aside0 (gb683 ≠ gb702) := ⟨h10_⟩
          have n11_ : Aside0 (gb702 ≠ gb683) := ⟨h11_⟩
          have n12_ : Aside0 (Below w.heap.size w w48) := ⟨h12_⟩
          clear BK682
          clear BK683
          clear HB
          clear h0_ h1_ h2_ h3_ h4_ h5_ h6_ h7_ h8_ h9_ h10_ h11_ h12_
          have HO689 := n0_
          have HO697 := n1_
          have HO701 := n2_
          have BK682 := n3_
          have BK683 := n4_
          have BK702 := n5_
          have GW702 := n6_
          have GE702 := n7_
          have NB682_702 := n8_
          have NB702_682 := n9_
          have NB683_702 := n10_
          have NB702_683 := n11_
          have HB := n12_
          clear n0_ n1_ n2_ n3_ n4_ n5_ n6_ n7_ n8_ n9_ n10_ n11_ n12_
          have hHeld : w48.cell? ⟨gb682, 0, none⟩ = some (.int .i64 a0_0) ∧ w48.cell? ⟨gb682, 1, none⟩ = some (.int .i64 a0_1) ∧ w48.cell? ⟨gb683, 0, none⟩ = some (.int .i64 a1_0) ∧ w48.cell? ⟨gb683, 1, none⟩ = some (.int .i64 a1_1) := hS_
          obtain ⟨Ao50, co50, eo50⟩ := Kd.R_slice HO701.out
          (first | subst eo50 | (injection eo50 with f1_ f2_ f3_; have f4_ := f1_.symm; have f5_ := f3_.symm; clear f1_ f2_ f3_; subst f4_; subst f5_))
          refine norm_ (a' := ?_) ?_ ?_
          rotate_left
          · simp only [putAll, Act.put, List.setIfInBounds_toArray, List.set_cons_zero, List.set_cons_succ]
            rfl
          refine one_ (i := 7) (N := none) #[true, true, true, true, true, true, true, true] rfl rfl (one_of HT_.out (by kernel_rfl)) (by decide) (fun K hK => ?_)
          have hs49 : w48.cell? ⟨gb702, 0, none⟩ = some (.bool false) := (kH BK702.out 0).trans rfl
          have hfs49 := kJ BK702.out 0
          have hns49_0 := NB682_702.out
          have hns49_1 := NB683_702.out
          have hms49_0 := NB702_682.out
          have hms49_1 := NB702_683.out
          have hs51 : w48.cell? ⟨gb702, 1, none⟩ = some (.slice none 0 0) := (kH BK702.out 1).trans rfl
          have hfs51 := kJ BK702.out 1
          have hns51_0 := NB682_702.out
          have hns51_1 := NB683_702.out
          have hms51_0 := NB702_682.out
          have hms51_1 := NB702_683.out
          refine skip_ (w1 := ?_) (by rfl) rfl ?_ ?_
          rotate_left
          · go_simp
            rfl
          refine hK.out _ _ ⟨((cell_far (p := ⟨gb702, _, none⟩) NB682_702.out _).trans (((cell_far (p := ⟨gb702, _, none⟩) NB682_702.out _).trans (hHeld.1)))), ((cell_far (p := ⟨gb702, _, none⟩) NB682_702.out _).trans (((cell_far (p := ⟨gb702, _, none⟩) NB682_702.out _).trans (hHeld.2.1)))), ((cell_far (p := ⟨gb702, _, none⟩) NB683_702.out _).trans (((cell_far (p := ⟨gb702, _, none⟩) NB683_702.out _).trans (hHeld.2.2.1)))), ((cell_far (p := ⟨gb702, _, none⟩) NB683_702.out _).trans (((cell_far (p := ⟨gb702, _, none⟩) NB683_702.out _).trans (hHeld.2.2.2))))⟩ (fun hHeld => ?_)
          clear hK K
          refine done_ (done_of HT_.out (by kernel_rfl)) ?_
          have hnb52 := NB702_682.out
          have hnc52 := NB682_702.out
          have hnb53 := NB702_683.out
          have hnc53 := NB683_702.out
          have hcz54_0 : w48.cell? ⟨gb702, 0, none⟩ = some (.bool false) := (kH BK702.out 0).trans rfl
          have hcz54_1 : w48.cell? ⟨gb702, 1, none⟩ = some (.slice none 0 0) := (kH BK702.out 1).trans rfl
          have hfz54_0 := kJ BK702.out 0
          have hfz54_1 := kJ BK702.out 1
          try go_wp2
          go_loopg [6] kj2 (fun kq v6 w' => ∃ (x6_2 : Int), v6 = .int .i64 x6_2 ∧ Aside0 (computusref04_Cmp.l0 kq x6_2 false t699 = some r) ∧ Aside0 (kq ≤ kj2) ∧ Aside0 (Kd.R (Kd.int .u64) 52 w' w.heap.size (fun _ => True) (.slice Ao50 t699.length co50) t699) ∧ Aside0 (w'.heap[gb682]? = some (.cells #[.int .i64 a0_0, .int .i64 a0_1] 23 (0, 0))) ∧ Aside0 (w'.heap[gb683]? = some (.cells #[.int .i64 a1_0, .int .i64 a1_1] 23 (0, 0))) ∧ Aside0 (w'.heap[gb702]? = some (.cells #[.bool false, (.slice Ao50 t699.length co50)] 60 (0, 0))) ∧ Aside0 (Below w.heap.size w w'))
          case atStart => exact ⟨(0), (by first | rfl | (simp; done) | (simp [*]; done)), H', ⟨Nat.le_refl _⟩, ⟨by (with_reducible repeat (first | apply Kd.R_alloc | apply Kd.R_drewN | apply Kd.R_drew)); exact Kd.R_mono (Kd.R_far (p := ⟨gb702, 1, none⟩) (Kd.R_far (p := ⟨gb702, 0, none⟩) (Kd.R_types HO701.out BK702.out (by decide)) (fun _ hk => hk.2) (.bool false)) (fun _ hk => hk.2) (.slice Ao50 t699.length co50)) (fun _ hk => trivial)⟩, ⟨by (with_reducible repeat (first | refine kC ?_ _ | refine kE ?_ | refine kD ?_ _)); refine blk_far ?_ NB682_702.out _; (with_reducible repeat (first | refine kC ?_ _ | refine kE ?_ | refine kD ?_ _)); refine blk_far ?_ NB682_702.out _; (with_reducible repeat (first | refine kC ?_ _ | refine kE ?_ | refine kD ?_ _)); exact BK682.out⟩, ⟨by (with_reducible repeat (first | refine kC ?_ _ | refine kE ?_ | refine kD ?_ _)); refine blk_far ?_ NB683_702.out _; (with_reducible repeat (first | refine kC ?_ _ | refine kE ?_ | refine kD ?_ _)); refine blk_far ?_ NB683_702.out _; (with_reducible repeat (first | refine kC ?_ _ | refine kE ?_ | refine kD ?_ _)); exact BK683.out⟩, ⟨by (with_reducible repeat (first | refine kC ?_ _ | refine kE ?_ | refine kD ?_ _)); refine blk_put (cs := #[.bool false, .slice none 0 0]) ?_ 1 _ rfl; (with_reducible repeat (first | refine kC ?_ _ | refine kE ?_ | refine kD ?_ _)); refine blk_put (cs := #[.bool false, .slice none 0 0]) ?_ 0 _ rfl; (with_reducible repeat (first | refine kC ?_ _ | refine kE ?_ | refine kD ?_ _)); exact BK702.out⟩, ⟨by repeat (first | (with_reducible first | exact HB.out | apply kF | apply kB | apply kG | refine kA ?_ GE682.out | refine kA ?_ GE683.out | refine kA ?_ GE702.out) | exact HB.out)⟩⟩
          case round =>
            clear H'
            try clear p2
            try clear c3
            try clear c4
            try clear c5
            try clear c37
            try clear c39
            try clear c46
            try clear c52
            try clear c53
            try clear hcz54_0
            try clear hcz54_1
            try clear hfz54_0
            try clear hfz54_1
            obtain ⟨x6_2, rfl, HA, HK2, HO_703001, BK682, BK683, BK702, HB⟩ := hrel
            cases gk with
            | zero => exact absurd HA.out (by simp [computusref04_Cmp.l0])
            | succ k2 =>
              have H := HA.out
              clear HA
              simp only [computusref04_Cmp.l0] at H
              by_cases c55 : x6_2 < (t699.length : Int)
              · rw [if_pos c55] at H
                have c55b0 : decide (x6_2 < (t699.length : Int)) = true := decide_eq_true c55
                clear c55
                by_cases c56 : 0 ≤ x6_2
                · rw [if_pos c56] at H
                  have c56b0 : decide (0 ≤ x6_2) = true := decide_eq_true c56
                  clear c56
                  by_cases c57 : (rd t699 x6_2) = 0
                  · rw [if_pos c57] at H
                    have c57b0 : ((rd t699 x6_2) == 0) = true := beq_iff_eq.mpr c57
                    have c57b1 : ((rd t699 x6_2) != 0) = false := bne_eq_false_iff_eq.mpr c57
                    clear c57
                    have H' := Aside0.mk H
                    clear H
                    have hnb58 := NB702_682.out
                    have hnc58 := NB682_702.out
                    have hnb59 := NB702_683.out
                    have hnc59 := NB683_702.out
                    have hcz60_0 : wr.cell? ⟨gb702, 0, none⟩ = some (.bool false) := (kH BK702.out 0).trans rfl
                    have hcz60_1 : wr.cell? ⟨gb702, 1, none⟩ = some (.slice Ao50 t699.length co50) := (kH BK702.out 1).trans rfl
                    have hfz60_0 := kJ BK702.out 0
                    have hfz60_1 := kJ BK702.out 1
                    have p703 : 0 ≤ (x6_2 : Int) := of_decide_eq_true (by first | (with_reducible assumption) | assumption)
                    have q703 : x6_2 < (t699.length : Int) := of_decide_eq_true (by first | (with_reducible assumption) | assumption)
                    obtain ⟨ad703, e703, hx703_0⟩ := Kd.at_int (Kd.R_reads' HO_703001.out).2.2 x6_2 p703 q703
                    cases e703
                    replace p703 := eq_true p703
                    replace q703 := eq_true q703
                    go_wp2
                    go_roundg k2
                    case measure => have := HJ2.out; have := HK2.out; omega
                    case rel => exact ⟨(wrap64 (x6_2 + 1)), (by first | rfl | (simp; done) | (simp [*]; done)), H', ⟨by have := HJ2.out; have := HK2.out; omega⟩, ⟨by (with_reducible repeat (first | apply Kd.R_alloc | apply Kd.R_drewN | apply Kd.R_drew)); exact HO_703001.out⟩, ⟨by (with_reducible repeat (first | refine kC ?_ _ | refine kE ?_ | refine kD ?_ _)); exact BK682.out⟩, ⟨by (with_reducible repeat (first | refine kC ?_ _ | refine kE ?_ | refine kD ?_ _)); exact BK683.out⟩, ⟨by (with_reducible repeat (first | refine kC ?_ _ | refine kE ?_ | refine kD ?_ _)); exact BK702.out⟩, ⟨by repeat (first | (with_reducible first | exact HB.out | apply kF | apply kB | apply kG | refine kA ?_ GE682.out | refine kA ?_ GE683.out | refine kA ?_ GE702.out) | exact HB.out)⟩⟩
                  · rw [if_neg c57] at H
                    have c57b0 : ((rd t699 x6_2) == 0) = false := beq_eq_false_iff_ne.mpr c57
                    have c57b1 : ((rd t699 x6_2) != 0) = true := bne_iff_ne.mpr c57
                    obtain rfl := Option.some.inj H
                    have hnb61 := NB702_682.out
                    have hnc61 := NB682_702.out
                    have hnb62 := NB702_683.out
                    have hnc62 := NB683_702.out
                    have hcz63_0 : wr.cell? ⟨gb702, 0, none⟩ = some (.bool false) := (kH BK702.out 0).trans rfl
                    have hcz63_1 : wr.cell? ⟨gb702, 1, none⟩ = some (.slice Ao50 t699.length co50) := (kH BK702.out 1).trans rfl
                    have hfz63_0 := kJ BK702.out 0
                    have hfz63_1 := kJ BK702.out 1
                    have p703 : 0 ≤ (x6_2 : Int) := of_decide_eq_true (by first | (with_reducible assumption) | assumption)
                    have q703 : x6_2 < (t699.length : Int) := of_decide_eq_true (by first | (with_reducible assumption) | assumption)
                    obtain ⟨ad703, e703, hx703_0⟩ := Kd.at_int (Kd.R_reads' HO_703001.out).2.2 x6_2 p703 q703
                    cases e703
                    replace p703 := eq_true p703
                    replace q703 := eq_true q703
                    go_wp2
                    go_ret
                    exact ⟨by first | rfl | (simp [errW_none, errW_some] <;> rfl) | (simp [*, errW_none, errW_some] <;> rfl), by repeat (first | (with_reducible first | exact HB.out | apply kF | apply kB | apply kG | refine kA ?_ GE682.out | refine kA ?_ GE683.out | refine kA ?_ GE702.out) | exact HB.out)⟩
                · rw [if_neg c56] at H
                  exact absurd H (by simp)
              · rw [if_neg c55] at H
                have c55b0 : decide (x6_2 < (t699.length : Int)) = false := decide_eq_false c55
                clear c55
                obtain rfl := Option.some.inj H
                have hnb64 := NB702_682.out
                have hnc64 := NB682_702.out
                have hnb65 := NB702_683.out
                have hnc65 := NB683_702.out
                have hcz66_0 : wr.cell? ⟨gb702, 0, none⟩ = some (.bool false) := (kH BK702.out 0).trans rfl
                have hcz66_1 : wr.cell? ⟨gb702, 1, none⟩ = some (.slice Ao50 t699.length co50) := (kH BK702.out 1).trans rfl
                have hfz66_0 := kJ BK702.out 0
                have hfz66_1 := kJ BK702.out 1
                go_wp2
                go_ret
                exact ⟨by first | rfl | (simp [errW_none, errW_some] <;> rfl) | (simp [*, errW_none, errW_some] <;> rfl), by repeat (first | (with_reducible first | exact HB.out | apply kF | apply kB | apply kG | refine kA ?_ GE682.out | refine kA ?_ GE683.out | refine kA ?_ GE702.out) | exact HB.out)⟩
noncomputable def computusref04_Cmp.con (k : Nat) : Con
  | [.agg [.int .i64 a0_0, .int .i64 a0_1], .agg [.int .i64 a1_0, .int .i64 a1_1]] => some ((computusref04_Cmp.f k a0_0 a0_1 a1_0 a1_1).isSome, .int .i64 (gd (computusref04_Cmp.f k a0_0 a0_1 a1_0 a1_1)))
  | _ => none
set_option maxRecDepth 100000 in
theorem computusref04_Cmp.cok (k : Nat) : COk Try.prog 30 (computusref04_Cmp.con k) := by
  intro args p v hc hp w A hA
  unfold computusref04_Cmp.con at hc
  split at hc
  · rename_i a0_0 a0_1 a1_0 a1_1
    simp only [Option.some.injEq, Prod.mk.injEq] at hc
    obtain ⟨rfl, rfl⟩ := hc
    rcases hf : computusref04_Cmp.f k a0_0 a0_1 a1_0 a1_1 with _ | r
    · rw [hf] at hp; cases hp
    obtain rfl : A = [.agg #[.int .i64 a0_0, .int .i64 a0_1], .agg #[.int .i64 a1_0, .int .i64 a1_1]] := by simpa [rl_cons, rl_nil, rv_int, rv_bool, rv_str, rv_agg, rv_fn] using hA
    exact gives_of_calls (fn := Try.f30) Try.func30 (by kernel_rfl) (by kernel_rfl) (computusref04_Cmp.calls _ _ _ _ _ _ w hf) (fun _ => by simp [gd_some, rl_cons, rl_nil, rv_int, rv_bool, rv_str, rv_agg, rv_tup]) (fun _ h => h)
  · cases hc
end Go.Proofs.Ytkongoedgngfhaa.P
