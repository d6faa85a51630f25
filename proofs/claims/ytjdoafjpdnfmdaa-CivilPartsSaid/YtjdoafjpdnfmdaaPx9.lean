-- Written by a program of the session (a print of the seat's translation, functions given by hand among it). Lean checks it.
import Derived.Test.YtjdoafjpdnfmdaaPx0
import Derived.Test.YtjdoafjpdnfmdaaPx1
import Derived.Test.YtjdoafjpdnfmdaaPx2
import Derived.Test.YtjdoafjpdnfmdaaPx3
import Derived.Test.YtjdoafjpdnfmdaaPx5
import Derived.Test.YtjdoafjpdnfmdaaPx8
namespace Go.Proofs.Ytjdoafjpdnfmdaa.P
open Go.RowKit Go.Proofs.YtjdoafjpdnfmdaaW.PrintWords Go.Proofs.YtjdoafjpdnfmdaaW.PrintLast Go.Proofs.YtjdoafjpdnfmdaaW.PrintMore
attribute [local go_sem] max2_int min2_int max_two min_two max_three min_three max_four min_four   -- for this text's walks alone
set_option linter.unusedVariables false
set_option linter.unusedSimpArgs false

/-! ### computuslaw02_CivilParts: function 9 -/
def computuslaw02_CivilParts.j0 : Nat → Int → Int → Int → Int → Int → Bool → Option (Bool)
  | 0, _, _, _, _, _, _ => none
  | k + 1, x3, x4, x5, x7, x8, x34 => if x34 = true then (if x5 = 10 then (if x8 = 10 then ((civil_Last.f).bind fun t311 => (if x3 > t311 then ((computuslaw02_known.f k).bind fun t312 => (some t312)) else (some false))) else (some false)) else (some false)) else ((civil_Date.f x3).bind fun bt313 => ((civil_Leap.f bt313.1).bind fun t317 => (if t317 = true then (if x4 ≥ 1 then (if x4 ≤ 366 then (if x7 ≥ 1 then (if x7 ≤ 53 then ((civil_Weekday.f x3).bind fun t318 => ((civil_Weekday.f (wrap64 (x3 + 7))).bind fun t319 => (if t318 = t319 then ((computuslaw02_known.f k).bind fun t320 => (some t320)) else (some false)))) else (some false)) else (some false)) else (some false)) else (some false)) else (if x4 ≥ 1 then (if x4 ≤ 365 then (if x7 ≥ 1 then (if x7 ≤ 53 then ((civil_Weekday.f x3).bind fun t321 => ((civil_Weekday.f (wrap64 (x3 + 7))).bind fun t322 => (if t321 = t322 then ((computuslaw02_known.f k).bind fun t323 => (some t323)) else (some false)))) else (some false)) else (some false)) else (some false)) else (some false)))))
def computuslaw02_CivilParts.f (k : Nat) (a0 : Int) : Option (Bool) := (civil_First.f).bind fun t304 => ((computusref01_Count.f a0 100000000).bind fun t305 => ((civil_YearDay.f (wrap64 (t304 + t305))).bind fun bt306 => ((civil_Week.f (wrap64 (t304 + t305))).bind fun bt308 => (if bt306.2 = 0 then (computuslaw02_CivilParts.j0 k (wrap64 (t304 + t305)) bt306.1 bt306.2 bt308.2.1 bt308.2.2 (bt308.2.2 != 0)) else (computuslaw02_CivilParts.j0 k (wrap64 (t304 + t305)) bt306.1 bt306.2 bt308.2.1 bt308.2.2 true)))))
theorem computuslaw02_CivilParts.mono_l : ∀ k, (∀ y0 y1 y2 y3 y4 y5, LeO (computuslaw02_CivilParts.j0 k y0 y1 y2 y3 y4 y5) (computuslaw02_CivilParts.j0 (k + 1) y0 y1 y2 y3 y4 y5))
  | 0 => fun _ _ _ _ _ _ r h => by simp [computuslaw02_CivilParts.j0] at h
  | k + 1 => by
    have ih0 := computuslaw02_CivilParts.mono_l k
    · intro y0 y1 y2 y3 y4 y5
      unfold computuslaw02_CivilParts.j0
      repeat' first
      | (with_reducible exact ih0 _ _ _ _ _ _)
      | (with_reducible exact computuslaw02_known.mono _)
      | (with_reducible exact LeO.refl _)
      | (with_reducible exact LeO.none _)
      | (with_reducible refine LeO.ite ?_ ?_)
      | (with_reducible refine LeO.bind ?_ (fun _ => ?_))
      | exact ih0 _ _ _ _ _ _
      | exact computuslaw02_known.mono _
      | exact LeO.none _
      | refine LeO.ite ?_ ?_
      | refine LeO.bind ?_ (fun _ => ?_)
theorem computuslaw02_CivilParts.mono : ∀ a0 k, LeO (computuslaw02_CivilParts.f k a0) (computuslaw02_CivilParts.f (k + 1) a0) := by
  intro a0 k
  have ih0 := computuslaw02_CivilParts.mono_l k
  unfold computuslaw02_CivilParts.f
  repeat' first
      | (with_reducible exact ih0 _ _ _ _ _ _)
      | (with_reducible exact computuslaw02_known.mono _)
      | (with_reducible exact LeO.refl _)
      | (with_reducible exact LeO.none _)
      | (with_reducible refine LeO.ite ?_ ?_)
      | (with_reducible refine LeO.bind ?_ (fun _ => ?_))
      | exact ih0 _ _ _ _ _ _
      | exact computuslaw02_known.mono _
      | exact LeO.none _
      | refine LeO.ite ?_ ?_
      | refine LeO.bind ?_ (fun _ => ?_)
set_option maxHeartbeats 8000000 in
set_option maxRecDepth 100000 in
theorem computuslaw02_CivilParts.calls (k : Nat) (a0 : Int) (r : Bool) (w : World) (h : computuslaw02_CivilParts.f k a0 = some r) :
    Calls Try.prog 9 #[.int .i64 a0] w fun e w' => e = .returned (.bool r) ∧ Below w.heap.size w w' := by
  have HB := Aside0.mk (Below.refl w.heap.size w)
  have H : ((civil_First.f).bind fun t304 => ((computusref01_Count.f a0 100000000).bind fun t305 => ((civil_YearDay.f (wrap64 (t304 + t305))).bind fun bt306 => ((civil_Week.f (wrap64 (t304 + t305))).bind fun bt308 => (if bt306.2 = 0 then (computuslaw02_CivilParts.j0 k (wrap64 (t304 + t305)) bt306.1 bt306.2 bt308.2.1 bt308.2.2 (bt308.2.2 != 0)) else (computuslaw02_CivilParts.j0 k (wrap64 (t304 + t305)) bt306.1 bt306.2 bt308.2.1 bt308.2.2 true)))))) = some r := h
  clear h
  replace H := Option.bind_eq_some_iff.mp H
  obtain ⟨t304, A20, H⟩ := H
  replace H : ((computusref01_Count.f a0 100000000).bind fun t305 => ((civil_YearDay.f (wrap64 (t304 + t305))).bind fun bt306 => ((civil_Week.f (wrap64 (t304 + t305))).bind fun bt308 => (if bt306.2 = 0 then (computuslaw02_CivilParts.j0 k (wrap64 (t304 + t305)) bt306.1 bt306.2 bt308.2.1 bt308.2.2 (bt308.2.2 != 0)) else (computuslaw02_CivilParts.j0 k (wrap64 (t304 + t305)) bt306.1 bt306.2 bt308.2.1 bt308.2.2 true))))) = some r := H
  have A2 := Aside0.mk A20
  clear A20
  replace H := Option.bind_eq_some_iff.mp H
  obtain ⟨t305, A30, H⟩ := H
  replace H : ((civil_YearDay.f (wrap64 (t304 + t305))).bind fun bt306 => ((civil_Week.f (wrap64 (t304 + t305))).bind fun bt308 => (if bt306.2 = 0 then (computuslaw02_CivilParts.j0 k (wrap64 (t304 + t305)) bt306.1 bt306.2 bt308.2.1 bt308.2.2 (bt308.2.2 != 0)) else (computuslaw02_CivilParts.j0 k (wrap64 (t304 + t305)) bt306.1 bt306.2 bt308.2.1 bt308.2.2 true)))) = some r := H
  have A3 := Aside0.mk A30
  clear A30
  replace H := Option.bind_eq_some_iff.mp H
  obtain ⟨⟨t306, t307⟩, A40, H⟩ := H
  replace H : ((civil_Week.f (wrap64 (t304 + t305))).bind fun bt308 => (if t307 = 0 then (computuslaw02_CivilParts.j0 k (wrap64 (t304 + t305)) t306 t307 bt308.2.1 bt308.2.2 (bt308.2.2 != 0)) else (computuslaw02_CivilParts.j0 k (wrap64 (t304 + t305)) t306 t307 bt308.2.1 bt308.2.2 true))) = some r := H
  have A4 := Aside0.mk A40
  clear A40
  replace H := Option.bind_eq_some_iff.mp H
  obtain ⟨⟨t308, t309, t310⟩, A50, H⟩ := H
  replace H : (if t307 = 0 then (computuslaw02_CivilParts.j0 k (wrap64 (t304 + t305)) t306 t307 t309 t310 (t310 != 0)) else (computuslaw02_CivilParts.j0 k (wrap64 (t304 + t305)) t306 t307 t309 t310 true)) = some r := H
  have A5 := Aside0.mk A50
  clear A50
  have HC6 := Aside0.mk H
  clear H
  go_enter Try.func9, Try.ntmps9
  go_upto_region 4 with (first | ((with_reducible refine gate_callee (f := 17) rfl ?_); refine goesL_ (some 14) rfl rfl Try.func17 (by kernel_rfl) rfl #[] rfl (by (try simp only [List.map_toArray, List.map_cons, List.map_nil]); first | done | rfl | (simp only [List.length_drop, List.length_take]; rfl)) ?_; (with_reducible refine (civil_First.calls  t304 _ A2.out).mono ?_); rintro e w' ⟨rfl, ⟨nd, rfl⟩⟩; refine ⟨_, rfl, ?_⟩) | ((with_reducible refine gate_callee (f := 35) rfl ?_); refine goesL_ (some 16) rfl rfl Try.func35 (by kernel_rfl) rfl #[.int .i64 a0, .int .i64 100000000] rfl (by (try simp only [List.map_toArray, List.map_cons, List.map_nil]); first | done | rfl | (simp only [List.length_drop, List.length_take]; rfl)) ?_; (with_reducible refine (computusref01_Count.calls a0 100000000 t305 _ A3.out).mono ?_); rintro e w' ⟨rfl, ⟨nd, rfl⟩⟩; refine ⟨_, rfl, ?_⟩) | ((with_reducible refine gate_callee (f := 28) rfl ?_); refine goesL_ (some 20) rfl rfl Try.func28 (by kernel_rfl) rfl #[.int .i64 (wrap64 (t304 + t305))] rfl (by (try simp only [List.map_toArray, List.map_cons, List.map_nil]); first | done | rfl | (simp only [List.length_drop, List.length_take]; rfl)) ?_; (with_reducible refine (civil_YearDay.calls (wrap64 (t304 + t305)) t306 t307 _ A4.out).mono ?_); rintro e w7 ⟨rfl, hb⟩; refine ⟨_, rfl, ?_⟩; have n0_ := Aside0.mk (below_step (by repeat (first | (with_reducible first | exact HB.out | apply below_alloc | apply pw_below_drewN | apply below_drew1) | exact HB.out)) hb); clear HB; have HB := n0_; clear n0_; (try clear hb); (try clear hb2); (try clear hk); (try clear hi)) | ((with_reducible refine gate_callee (f := 30) rfl ?_); refine goesL_ (some 25) rfl rfl Try.func30 (by kernel_rfl) rfl #[.int .i64 (wrap64 (t304 + t305))] rfl (by (try simp only [List.map_toArray, List.map_cons, List.map_nil]); first | done | rfl | (simp only [List.length_drop, List.length_take]; rfl)) ?_; (with_reducible refine (civil_Week.calls (wrap64 (t304 + t305)) t308 t309 t310 _ A5.out).mono ?_); rintro e w8 ⟨rfl, hb⟩; refine ⟨_, rfl, ?_⟩; have n0_ := Aside0.mk (below_step (by repeat (first | (with_reducible first | exact HB.out | apply below_alloc | apply pw_below_drewN | apply below_drew1) | exact HB.out)) hb); clear HB; have HB := n0_; clear n0_; (try clear hb); (try clear hb2); (try clear hk); (try clear hi)))
  (try simp only [Act.put, List.setIfInBounds_toArray, List.set_cons_zero, List.set_cons_succ])
  go_cut [34] (fun v34 wc => ∃ (kq : Nat) (x34_5 : Bool), v34 = .bool x34_5 ∧ Aside0 (computuslaw02_CivilParts.j0 kq (wrap64 (t304 + t305)) t306 t307 t309 t310 x34_5 = some r) ∧ Aside0 (kq ≤ k) ∧ Aside0 (Below w.heap.size w wc))
  case first =>
    have H := HC6.out
    clear HC6
    by_cases c9 : t307 = 0
    · rw [if_pos c9] at H
      have c9b0 : (t307 == 0) = true := beq_iff_eq.mpr c9
      have c9b1 : (t307 != 0) = false := bne_eq_false_iff_eq.mpr c9
      clear c9
      (first | rw [c9b0] | (simp only [i64_w, i32_w]; rw [c9b0]) | skip)
      have H' := Aside0.mk H
      clear H
      go_wp2
      go_meet
      case rel => exact ⟨_, ((t310 != 0)), (by first | rfl | (simp; done) | (simp [*]; done)), H', ⟨by first | omega | exact Nat.le_refl _⟩, ⟨by repeat (first | (with_reducible first | exact HB.out | apply below_alloc | apply pw_below_drewN | apply below_drew1) | exact HB.out)⟩⟩
    · rw [if_neg c9] at H
      have c9b0 : (t307 == 0) = false := beq_eq_false_iff_ne.mpr c9
      have c9b1 : (t307 != 0) = true := bne_iff_ne.mpr c9
      (first | rw [c9b0] | (simp only [i64_w, i32_w]; rw [c9b0]) | skip)
      have H' := Aside0.mk H
      clear H
      go_wp2
      go_meet
      case rel => exact ⟨_, (true), (by first | rfl | (simp; done) | (simp [*]; done)), H', ⟨by first | omega | exact Nat.le_refl _⟩, ⟨by repeat (first | (with_reducible first | exact HB.out | apply below_alloc | apply pw_below_drewN | apply below_drew1) | exact HB.out)⟩⟩
  case rest =>
    clear HC6
    try clear c1
    try clear c2
    try clear p2
    try clear c3
    try clear p6
    try clear c9
    try clear c9b0
    try clear c9b1
    obtain ⟨kq, x34_5, rfl, HA, HJ5, HB⟩ := hcut
    cases kq with
    | zero => exact absurd HA.out (by simp [computuslaw02_CivilParts.j0])
    | succ kj5 =>
      have H := HA.out
      clear HA
      simp only [computuslaw02_CivilParts.j0] at H
      by_cases c10 : x34_5 = true
      · subst c10
        have H1 : (if t307 = 10 then (if t310 = 10 then ((civil_Last.f).bind fun t311 => (if (wrap64 (t304 + t305)) > t311 then ((computuslaw02_known.f kj5).bind fun t312 => (some t312)) else (some false))) else (some false)) else (some false)) = some r := by rw [if_pos rfl] at H; exact H
        clear H
        have H := H1
        clear H1
        by_cases c11 : t307 = 10
        · rw [if_pos c11] at H
          have c11b0 : (t307 == 10) = true := beq_iff_eq.mpr c11
          have c11b1 : (t307 != 10) = false := bne_eq_false_iff_eq.mpr c11
          clear c11
          by_cases c12 : t310 = 10
          · rw [if_pos c12] at H
            have c12b0 : (t310 == 10) = true := beq_iff_eq.mpr c12
            have c12b1 : (t310 != 10) = false := bne_eq_false_iff_eq.mpr c12
            clear c12
            replace H := Option.bind_eq_some_iff.mp H
            obtain ⟨t311, A130, H⟩ := H
            replace H : (if (wrap64 (t304 + t305)) > t311 then ((computuslaw02_known.f kj5).bind fun t312 => (some t312)) else (some false)) = some r := H
            have A13 := Aside0.mk A130
            clear A130
            by_cases c14 : (wrap64 (t304 + t305)) > t311
            · rw [if_pos c14] at H
              have c14b0 : decide (t311 < (wrap64 (t304 + t305))) = true := decide_eq_true c14
              clear c14
              replace H := Option.bind_eq_some_iff.mp H
              obtain ⟨t312, A150, H⟩ := H
              replace H : (some t312) = some r := H
              have A15 := Aside0.mk A150
              clear A150
              obtain rfl := Option.some.inj H
              go_wp2_with (first | (go_at_call 19; (with_reducible refine (civil_Last.calls  t311 _ A13.out).mono ?_); rintro e w' ⟨rfl, ⟨nd, rfl⟩⟩) | (go_at_call 21; (with_reducible refine (computuslaw02_known.calls kj5  t312 _ A15.out).mono ?_); rintro e w16 ⟨rfl, hb⟩; have n0_ := Aside0.mk (below_step (by repeat (first | (with_reducible first | exact HB.out | apply below_alloc | apply pw_below_drewN | apply below_drew1) | exact HB.out)) hb); clear HB; have HB := n0_; clear n0_; (try clear hb); (try clear hb2); (try clear hk); (try clear hi)))
              go_ret
              exact ⟨by first | rfl | (simp [errW_none, errW_some] <;> rfl) | (simp [*, errW_none, errW_some] <;> rfl), by repeat (first | (with_reducible first | exact HB.out | apply below_alloc | apply pw_below_drewN | apply below_drew1) | exact HB.out)⟩
            · rw [if_neg c14] at H
              have c14b0 : decide (t311 < (wrap64 (t304 + t305))) = false := decide_eq_false c14
              clear c14
              obtain rfl := Option.some.inj H
              go_wp2_with (first | (go_at_call 19; (with_reducible refine (civil_Last.calls  t311 _ A13.out).mono ?_); rintro e w' ⟨rfl, ⟨nd, rfl⟩⟩))
              go_ret
              exact ⟨by first | rfl | (simp [errW_none, errW_some] <;> rfl) | (simp [*, errW_none, errW_some] <;> rfl), by repeat (first | (with_reducible first | exact HB.out | apply below_alloc | apply pw_below_drewN | apply below_drew1) | exact HB.out)⟩
          · rw [if_neg c12] at H
            have c12b0 : (t310 == 10) = false := beq_eq_false_iff_ne.mpr c12
            have c12b1 : (t310 != 10) = true := bne_iff_ne.mpr c12
            obtain rfl := Option.some.inj H
            go_wp2
            go_ret
            exact ⟨by first | rfl | (simp [errW_none, errW_some] <;> rfl) | (simp [*, errW_none, errW_some] <;> rfl), by repeat (first | (with_reducible first | exact HB.out | apply below_alloc | apply pw_below_drewN | apply below_drew1) | exact HB.out)⟩
        · rw [if_neg c11] at H
          have c11b0 : (t307 == 10) = false := beq_eq_false_iff_ne.mpr c11
          have c11b1 : (t307 != 10) = true := bne_iff_ne.mpr c11
          obtain rfl := Option.some.inj H
          go_wp2
          go_ret
          exact ⟨by first | rfl | (simp [errW_none, errW_some] <;> rfl) | (simp [*, errW_none, errW_some] <;> rfl), by repeat (first | (with_reducible first | exact HB.out | apply below_alloc | apply pw_below_drewN | apply below_drew1) | exact HB.out)⟩
      · replace c10 := Bool.eq_false_iff.mpr c10
        subst c10
        have H1 : ((civil_Date.f (wrap64 (t304 + t305))).bind fun bt313 => ((civil_Leap.f bt313.1).bind fun t317 => (if t317 = true then (if t306 ≥ 1 then (if t306 ≤ 366 then (if t309 ≥ 1 then (if t309 ≤ 53 then ((civil_Weekday.f (wrap64 (t304 + t305))).bind fun t318 => ((civil_Weekday.f (wrap64 ((wrap64 (t304 + t305)) + 7))).bind fun t319 => (if t318 = t319 then ((computuslaw02_known.f kj5).bind fun t320 => (some t320)) else (some false)))) else (some false)) else (some false)) else (some false)) else (some false)) else (if t306 ≥ 1 then (if t306 ≤ 365 then (if t309 ≥ 1 then (if t309 ≤ 53 then ((civil_Weekday.f (wrap64 (t304 + t305))).bind fun t321 => ((civil_Weekday.f (wrap64 ((wrap64 (t304 + t305)) + 7))).bind fun t322 => (if t321 = t322 then ((computuslaw02_known.f kj5).bind fun t323 => (some t323)) else (some false)))) else (some false)) else (some false)) else (some false)) else (some false))))) = some r := by rw [if_neg (show ¬ (false = true) by decide)] at H; exact H
        clear H
        have H := H1
        clear H1
        replace H := Option.bind_eq_some_iff.mp H
        obtain ⟨⟨t313, t314, t315, t316⟩, A170, H⟩ := H
        replace H : ((civil_Leap.f t313).bind fun t317 => (if t317 = true then (if t306 ≥ 1 then (if t306 ≤ 366 then (if t309 ≥ 1 then (if t309 ≤ 53 then ((civil_Weekday.f (wrap64 (t304 + t305))).bind fun t318 => ((civil_Weekday.f (wrap64 ((wrap64 (t304 + t305)) + 7))).bind fun t319 => (if t318 = t319 then ((computuslaw02_known.f kj5).bind fun t320 => (some t320)) else (some false)))) else (some false)) else (some false)) else (some false)) else (some false)) else (if t306 ≥ 1 then (if t306 ≤ 365 then (if t309 ≥ 1 then (if t309 ≤ 53 then ((civil_Weekday.f (wrap64 (t304 + t305))).bind fun t321 => ((civil_Weekday.f (wrap64 ((wrap64 (t304 + t305)) + 7))).bind fun t322 => (if t321 = t322 then ((computuslaw02_known.f kj5).bind fun t323 => (some t323)) else (some false)))) else (some false)) else (some false)) else (some false)) else (some false)))) = some r := H
        have A17 := Aside0.mk A170
        clear A170
        replace H := Option.bind_eq_some_iff.mp H
        obtain ⟨t317, A180, H⟩ := H
        replace H : (if t317 = true then (if t306 ≥ 1 then (if t306 ≤ 366 then (if t309 ≥ 1 then (if t309 ≤ 53 then ((civil_Weekday.f (wrap64 (t304 + t305))).bind fun t318 => ((civil_Weekday.f (wrap64 ((wrap64 (t304 + t305)) + 7))).bind fun t319 => (if t318 = t319 then ((computuslaw02_known.f kj5).bind fun t320 => (some t320)) else (some false)))) else (some false)) else (some false)) else (some false)) else (some false)) else (if t306 ≥ 1 then (if t306 ≤ 365 then (if t309 ≥ 1 then (if t309 ≤ 53 then ((civil_Weekday.f (wrap64 (t304 + t305))).bind fun t321 => ((civil_Weekday.f (wrap64 ((wrap64 (t304 + t305)) + 7))).bind fun t322 => (if t321 = t322 then ((computuslaw02_known.f kj5).bind fun t323 => (some t323)) else (some false)))) else (some false)) else (some false)) else (some false)) else (some false))) = some r := H
        have A18 := Aside0.mk A180
        clear A180
        by_cases c19 : t317 = true
        · subst c19
          have H1 : (if t306 ≥ 1 then (if t306 ≤ 366 then (if t309 ≥ 1 then (if t309 ≤ 53 then ((civil_Weekday.f (wrap64 (t304 + t305))).bind fun t318 => ((civil_Weekday.f (wrap64 ((wrap64 (t304 + t305)) + 7))).bind fun t319 => (if t318 = t319 then ((computuslaw02_known.f kj5).bind fun t320 => (some t320)) else (some false)))) else (some false)) else (some false)) else (some false)) else (some false)) = some r := by rw [if_pos rfl] at H; exact H
          clear H
          have H := H1
          clear H1
          by_cases c20 : t306 ≥ 1
          · rw [if_pos c20] at H
            have c20b0 : decide (1 ≤ t306) = true := decide_eq_true c20
            clear c20
            by_cases c21 : t306 ≤ 366
            · rw [if_pos c21] at H
              have c21b0 : decide (t306 ≤ 366) = true := decide_eq_true c21
              clear c21
              by_cases c22 : t309 ≥ 1
              · rw [if_pos c22] at H
                have c22b0 : decide (1 ≤ t309) = true := decide_eq_true c22
                clear c22
                by_cases c23 : t309 ≤ 53
                · rw [if_pos c23] at H
                  have c23b0 : decide (t309 ≤ 53) = true := decide_eq_true c23
                  clear c23
                  replace H := Option.bind_eq_some_iff.mp H
                  obtain ⟨t318, A240, H⟩ := H
                  replace H : ((civil_Weekday.f (wrap64 ((wrap64 (t304 + t305)) + 7))).bind fun t319 => (if t318 = t319 then ((computuslaw02_known.f kj5).bind fun t320 => (some t320)) else (some false))) = some r := H
                  have A24 := Aside0.mk A240
                  clear A240
                  replace H := Option.bind_eq_some_iff.mp H
                  obtain ⟨t319, A250, H⟩ := H
                  replace H : (if t318 = t319 then ((computuslaw02_known.f kj5).bind fun t320 => (some t320)) else (some false)) = some r := H
                  have A25 := Aside0.mk A250
                  clear A250
                  by_cases c26 : t318 = t319
                  · rw [if_pos c26] at H
                    have c26b0 : (t318 == t319) = true := beq_iff_eq.mpr c26
                    have c26b1 : (t318 != t319) = false := bne_eq_false_iff_eq.mpr c26
                    clear c26
                    replace H := Option.bind_eq_some_iff.mp H
                    obtain ⟨t320, A270, H⟩ := H
                    replace H : (some t320) = some r := H
                    have A27 := Aside0.mk A270
                    clear A270
                    obtain rfl := Option.some.inj H
                    go_wp2_with (first | ((with_reducible refine gate_callee (f := 26) rfl ?_); refine goesL_ (some 51) rfl rfl Try.func26 (by kernel_rfl) rfl #[.int .i64 (wrap64 (t304 + t305))] rfl (by (try simp only [List.map_toArray, List.map_cons, List.map_nil]); first | done | rfl | (simp only [List.length_drop, List.length_take]; rfl)) ?_; (with_reducible refine (civil_Date.calls (wrap64 (t304 + t305)) t313 t314 t315 t316 _ A17.out).mono ?_); rintro e w28 ⟨rfl, hb⟩; refine ⟨_, rfl, ?_⟩; have n0_ := Aside0.mk (below_step (by repeat (first | (with_reducible first | exact HB.out | apply below_alloc | apply pw_below_drewN | apply below_drew1) | exact HB.out)) hb); clear HB; have HB := n0_; clear n0_; (try clear hb); (try clear hb2); (try clear hk); (try clear hi)) | ((with_reducible refine gate_callee (f := 11) rfl ?_); refine goesL_ (some 57) rfl rfl Try.func11 (by kernel_rfl) rfl #[.int .i64 t313] rfl (by (try simp only [List.map_toArray, List.map_cons, List.map_nil]); first | done | rfl | (simp only [List.length_drop, List.length_take]; rfl)) ?_; (with_reducible refine (civil_Leap.calls t313 true _ A18.out).mono ?_); rintro e w' ⟨rfl, ⟨nd, rfl⟩⟩; refine ⟨_, rfl, ?_⟩) | (go_at_call 32; (with_reducible refine (civil_Weekday.calls (wrap64 (t304 + t305)) t318 _ A24.out).mono ?_); rintro e w' ⟨rfl, ⟨nd, rfl⟩⟩) | (go_at_call 32; (with_reducible refine (civil_Weekday.calls (wrap64 ((wrap64 (t304 + t305)) + 7)) t319 _ A25.out).mono ?_); rintro e w' ⟨rfl, ⟨nd, rfl⟩⟩) | (go_at_call 21; (with_reducible refine (computuslaw02_known.calls kj5  t320 _ A27.out).mono ?_); rintro e w29 ⟨rfl, hb⟩; have n0_ := Aside0.mk (below_step (by repeat (first | (with_reducible first | exact HB.out | apply below_alloc | apply pw_below_drewN | apply below_drew1) | exact HB.out)) hb); clear HB; have HB := n0_; clear n0_; (try clear hb); (try clear hb2); (try clear hk); (try clear hi)))
                    go_ret
                    exact ⟨by first | rfl | (simp [errW_none, errW_some] <;> rfl) | (simp [*, errW_none, errW_some] <;> rfl), by repeat (first | (with_reducible first | exact HB.out | apply below_alloc | apply pw_below_drewN | apply below_drew1) | exact HB.out)⟩
                  · rw [if_neg c26] at H
                    have c26b0 : (t318 == t319) = false := beq_eq_false_iff_ne.mpr c26
                    have c26b1 : (t318 != t319) = true := bne_iff_ne.mpr c26
                    obtain rfl := Option.some.inj H
                    go_wp2_with (first | ((with_reducible refine gate_callee (f := 26) rfl ?_); refine goesL_ (some 51) rfl rfl Try.func26 (by kernel_rfl) rfl #[.int .i64 (wrap64 (t304 + t305))] rfl (by (try simp only [List.map_toArray, List.map_cons, List.map_nil]); first | done | rfl | (simp only [List.length_drop, List.length_take]; rfl)) ?_; (with_reducible refine (civil_Date.calls (wrap64 (t304 + t305)) t313 t314 t315 t316 _ A17.out).mono ?_); rintro e w30 ⟨rfl, hb⟩; refine ⟨_, rfl, ?_⟩; have n0_ := Aside0.mk (below_step (by repeat (first | (with_reducible first | exact HB.out | apply below_alloc | apply pw_below_drewN | apply below_drew1) | exact HB.out)) hb); clear HB; have HB := n0_; clear n0_; (try clear hb); (try clear hb2); (try clear hk); (try clear hi)) | ((with_reducible refine gate_callee (f := 11) rfl ?_); refine goesL_ (some 57) rfl rfl Try.func11 (by kernel_rfl) rfl #[.int .i64 t313] rfl (by (try simp only [List.map_toArray, List.map_cons, List.map_nil]); first | done | rfl | (simp only [List.length_drop, List.length_take]; rfl)) ?_; (with_reducible refine (civil_Leap.calls t313 true _ A18.out).mono ?_); rintro e w' ⟨rfl, ⟨nd, rfl⟩⟩; refine ⟨_, rfl, ?_⟩) | (go_at_call 32; (with_reducible refine (civil_Weekday.calls (wrap64 (t304 + t305)) t318 _ A24.out).mono ?_); rintro e w' ⟨rfl, ⟨nd, rfl⟩⟩) | (go_at_call 32; (with_reducible refine (civil_Weekday.calls (wrap64 ((wrap64 (t304 + t305)) + 7)) t319 _ A25.out).mono ?_); rintro e w' ⟨rfl, ⟨nd, rfl⟩⟩))
                    go_ret
                    exact ⟨by first | rfl | (simp [errW_none, errW_some] <;> rfl) | (simp [*, errW_none, errW_some] <;> rfl), by repeat (first | (with_reducible first | exact HB.out | apply below_alloc | apply pw_below_drewN | apply below_drew1) | exact HB.out)⟩
                · rw [if_neg c23] at H
                  have c23b0 : decide (t309 ≤ 53) = false := decide_eq_false c23
                  clear c23
                  obtain rfl := Option.some.inj H
                  go_wp2_with (first | ((with_reducible refine gate_callee (f := 26) rfl ?_); refine goesL_ (some 51) rfl rfl Try.func26 (by kernel_rfl) rfl #[.int .i64 (wrap64 (t304 + t305))] rfl (by (try simp only [List.map_toArray, List.map_cons, List.map_nil]); first | done | rfl | (simp only [List.length_drop, List.length_take]; rfl)) ?_; (with_reducible refine (civil_Date.calls (wrap64 (t304 + t305)) t313 t314 t315 t316 _ A17.out).mono ?_); rintro e w31 ⟨rfl, hb⟩; refine ⟨_, rfl, ?_⟩; have n0_ := Aside0.mk (below_step (by repeat (first | (with_reducible first | exact HB.out | apply below_alloc | apply pw_below_drewN | apply below_drew1) | exact HB.out)) hb); clear HB; have HB := n0_; clear n0_; (try clear hb); (try clear hb2); (try clear hk); (try clear hi)) | ((with_reducible refine gate_callee (f := 11) rfl ?_); refine goesL_ (some 57) rfl rfl Try.func11 (by kernel_rfl) rfl #[.int .i64 t313] rfl (by (try simp only [List.map_toArray, List.map_cons, List.map_nil]); first | done | rfl | (simp only [List.length_drop, List.length_take]; rfl)) ?_; (with_reducible refine (civil_Leap.calls t313 true _ A18.out).mono ?_); rintro e w' ⟨rfl, ⟨nd, rfl⟩⟩; refine ⟨_, rfl, ?_⟩))
                  go_ret
                  exact ⟨by first | rfl | (simp [errW_none, errW_some] <;> rfl) | (simp [*, errW_none, errW_some] <;> rfl), by repeat (first | (with_reducible first | exact HB.out | apply below_alloc | apply pw_below_drewN | apply below_drew1) | exact HB.out)⟩
              · rw [if_neg c22] at H
                have c22b0 : decide (1 ≤ t309) = false := decide_eq_false c22
                clear c22
                obtain rfl := Option.some.inj H
                go_wp2_with (first | ((with_reducible refine gate_callee (f := 26) rfl ?_); refine goesL_ (some 51) rfl rfl Try.func26 (by kernel_rfl) rfl #[.int .i64 (wrap64 (t304 + t305))] rfl (by (try simp only [List.map_toArray, List.map_cons, List.map_nil]); first | done | rfl | (simp only [List.length_drop, List.length_take]; rfl)) ?_; (with_reducible refine (civil_Date.calls (wrap64 (t304 + t305)) t313 t314 t315 t316 _ A17.out).mono ?_); rintro e w32 ⟨rfl, hb⟩; refine ⟨_, rfl, ?_⟩; have n0_ := Aside0.mk (below_step (by repeat (first | (with_reducible first | exact HB.out | apply below_alloc | apply pw_below_drewN | apply below_drew1) | exact HB.out)) hb); clear HB; have HB := n0_; clear n0_; (try clear hb); (try clear hb2); (try clear hk); (try clear hi)) | ((with_reducible refine gate_callee (f := 11) rfl ?_); refine goesL_ (some 57) rfl rfl Try.func11 (by kernel_rfl) rfl #[.int .i64 t313] rfl (by (try simp only [List.map_toArray, List.map_cons, List.map_nil]); first | done | rfl | (simp only [List.length_drop, List.length_take]; rfl)) ?_; (with_reducible refine (civil_Leap.calls t313 true _ A18.out).mono ?_); rintro e w' ⟨rfl, ⟨nd, rfl⟩⟩; refine ⟨_, rfl, ?_⟩))
                go_ret
                exact ⟨by first | rfl | (simp [errW_none, errW_some] <;> rfl) | (simp [*, errW_none, errW_some] <;> rfl), by repeat (first | (with_reducible first | exact HB.out | apply below_alloc | apply pw_below_drewN | apply below_drew1) | exact HB.out)⟩
            · rw [if_neg c21] at H
              have c21b0 : decide (t306 ≤ 366) = false := decide_eq_false c21
              clear c21
              obtain rfl := Option.some.inj H
              go_wp2_with (first | ((with_reducible refine gate_callee (f := 26) rfl ?_); refine goesL_ (some 51) rfl rfl Try.func26 (by kernel_rfl) rfl #[.int .i64 (wrap64 (t304 + t305))] rfl (by (try simp only [List.map_toArray, List.map_cons, List.map_nil]); first | done | rfl | (simp only [List.length_drop, List.length_take]; rfl)) ?_; (with_reducible refine (civil_Date.calls (wrap64 (t304 + t305)) t313 t314 t315 t316 _ A17.out).mono ?_); rintro e w33 ⟨rfl, hb⟩; refine ⟨_, rfl, ?_⟩; have n0_ := Aside0.mk (below_step (by repeat (first | (with_reducible first | exact HB.out | apply below_alloc | apply pw_below_drewN | apply below_drew1) | exact HB.out)) hb); clear HB; have HB := n0_; clear n0_; (try clear hb); (try clear hb2); (try clear hk); (try clear hi)) | ((with_reducible refine gate_callee (f := 11) rfl ?_); refine goesL_ (some 57) rfl rfl Try.func11 (by kernel_rfl) rfl #[.int .i64 t313] rfl (by (try simp only [List.map_toArray, List.map_cons, List.map_nil]); first | done | rfl | (simp only [List.length_drop, List.length_take]; rfl)) ?_; (with_reducible refine (civil_Leap.calls t313 true _ A18.out).mono ?_); rintro e w' ⟨rfl, ⟨nd, rfl⟩⟩; refine ⟨_, rfl, ?_⟩))
              go_ret
              exact ⟨by first | rfl | (simp [errW_none, errW_some] <;> rfl) | (simp [*, errW_none, errW_some] <;> rfl), by repeat (first | (with_reducible first | exact HB.out | apply below_alloc | apply pw_below_drewN | apply below_drew1) | exact HB.out)⟩
          · rw [if_neg c20] at H
            have c20b0 : decide (1 ≤ t306) = false := decide_eq_false c20
            clear c20
            obtain rfl := Option.some.inj H
            go_wp2_with (first | ((with_reducible refine gate_callee (f := 26) rfl ?_); refine goesL_ (some 51) rfl rfl Try.func26 (by kernel_rfl) rfl #[.int .i64 (wrap64 (t304 + t305))] rfl (by (try simp only [List.map_toArray, List.map_cons, List.map_nil]); first | done | rfl | (simp only [List.length_drop, List.length_take]; rfl)) ?_; (with_reducible refine (civil_Date.calls (wrap64 (t304 + t305)) t313 t314 t315 t316 _ A17.out).mono ?_); rintro e w34 ⟨rfl, hb⟩; refine ⟨_, rfl, ?_⟩; have n0_ := Aside0.mk (below_step (by repeat (first | (with_reducible first | exact HB.out | apply below_alloc | apply pw_below_drewN | apply below_drew1) | exact HB.out)) hb); clear HB; have HB := n0_; clear n0_; (try clear hb); (try clear hb2); (try clear hk); (try clear hi)) | ((with_reducible refine gate_callee (f := 11) rfl ?_); refine goesL_ (some 57) rfl rfl Try.func11 (by kernel_rfl) rfl #[.int .i64 t313] rfl (by (try simp only [List.map_toArray, List.map_cons, List.map_nil]); first | done | rfl | (simp only [List.length_drop, List.length_take]; rfl)) ?_; (with_reducible refine (civil_Leap.calls t313 true _ A18.out).mono ?_); rintro e w' ⟨rfl, ⟨nd, rfl⟩⟩; refine ⟨_, rfl, ?_⟩))
            go_ret
            exact ⟨by first | rfl | (simp [errW_none, errW_some] <;> rfl) | (simp [*, errW_none, errW_some] <;> rfl), by repeat (first | (with_reducible first | exact HB.out | apply below_alloc | apply pw_below_drewN | apply below_drew1) | exact HB.out)⟩
        · replace c19 := Bool.eq_false_iff.mpr c19
          subst c19
          have H1 : (if t306 ≥ 1 then (if t306 ≤ 365 then (if t309 ≥ 1 then (if t309 ≤ 53 then ((civil_Weekday.f (wrap64 (t304 + t305))).bind fun t321 => ((civil_Weekday.f (wrap64 ((wrap64 (t304 + t305)) + 7))).bind fun t322 => (if t321 = t322 then ((computuslaw02_known.f kj5).bind fun t323 => (some t323)) else (some false)))) else (some false)) else (some false)) else (some false)) else (some false)) = some r := by rw [if_neg (show ¬ (false = true) by decide)] at H; exact H
          clear H
          have H := H1
          clear H1
          by_cases c35 : t306 ≥ 1
          · rw [if_pos c35] at H
            have c35b0 : decide (1 ≤ t306) = true := decide_eq_true c35
            clear c35
            by_cases c36 : t306 ≤ 365
            · rw [if_pos c36] at H
              have c36b0 : decide (t306 ≤ 365) = true := decide_eq_true c36
              clear c36
              by_cases c37 : t309 ≥ 1
              · rw [if_pos c37] at H
                have c37b0 : decide (1 ≤ t309) = true := decide_eq_true c37
                clear c37
                by_cases c38 : t309 ≤ 53
                · rw [if_pos c38] at H
                  have c38b0 : decide (t309 ≤ 53) = true := decide_eq_true c38
                  clear c38
                  replace H := Option.bind_eq_some_iff.mp H
                  obtain ⟨t321, A390, H⟩ := H
                  replace H : ((civil_Weekday.f (wrap64 ((wrap64 (t304 + t305)) + 7))).bind fun t322 => (if t321 = t322 then ((computuslaw02_known.f kj5).bind fun t323 => (some t323)) else (some false))) = some r := H
                  have A39 := Aside0.mk A390
                  clear A390
                  replace H := Option.bind_eq_some_iff.mp H
                  obtain ⟨t322, A400, H⟩ := H
                  replace H : (if t321 = t322 then ((computuslaw02_known.f kj5).bind fun t323 => (some t323)) else (some false)) = some r := H
                  have A40 := Aside0.mk A400
                  clear A400
                  by_cases c41 : t321 = t322
                  · rw [if_pos c41] at H
                    have c41b0 : (t321 == t322) = true := beq_iff_eq.mpr c41
                    have c41b1 : (t321 != t322) = false := bne_eq_false_iff_eq.mpr c41
                    clear c41
                    replace H := Option.bind_eq_some_iff.mp H
                    obtain ⟨t323, A420, H⟩ := H
                    replace H : (some t323) = some r := H
                    have A42 := Aside0.mk A420
                    clear A420
                    obtain rfl := Option.some.inj H
                    go_wp2_with (first | ((with_reducible refine gate_callee (f := 26) rfl ?_); refine goesL_ (some 51) rfl rfl Try.func26 (by kernel_rfl) rfl #[.int .i64 (wrap64 (t304 + t305))] rfl (by (try simp only [List.map_toArray, List.map_cons, List.map_nil]); first | done | rfl | (simp only [List.length_drop, List.length_take]; rfl)) ?_; (with_reducible refine (civil_Date.calls (wrap64 (t304 + t305)) t313 t314 t315 t316 _ A17.out).mono ?_); rintro e w43 ⟨rfl, hb⟩; refine ⟨_, rfl, ?_⟩; have n0_ := Aside0.mk (below_step (by repeat (first | (with_reducible first | exact HB.out | apply below_alloc | apply pw_below_drewN | apply below_drew1) | exact HB.out)) hb); clear HB; have HB := n0_; clear n0_; (try clear hb); (try clear hb2); (try clear hk); (try clear hi)) | ((with_reducible refine gate_callee (f := 11) rfl ?_); refine goesL_ (some 57) rfl rfl Try.func11 (by kernel_rfl) rfl #[.int .i64 t313] rfl (by (try simp only [List.map_toArray, List.map_cons, List.map_nil]); first | done | rfl | (simp only [List.length_drop, List.length_take]; rfl)) ?_; (with_reducible refine (civil_Leap.calls t313 false _ A18.out).mono ?_); rintro e w' ⟨rfl, ⟨nd, rfl⟩⟩; refine ⟨_, rfl, ?_⟩) | (go_at_call 32; (with_reducible refine (civil_Weekday.calls (wrap64 (t304 + t305)) t321 _ A39.out).mono ?_); rintro e w' ⟨rfl, ⟨nd, rfl⟩⟩) | (go_at_call 32; (with_reducible refine (civil_Weekday.calls (wrap64 ((wrap64 (t304 + t305)) + 7)) t322 _ A40.out).mono ?_); rintro e w' ⟨rfl, ⟨nd, rfl⟩⟩) | (go_at_call 21; (with_reducible refine (computuslaw02_known.calls kj5  t323 _ A42.out).mono ?_); rintro e w44 ⟨rfl, hb⟩; have n0_ := Aside0.mk (below_step (by repeat (first | (with_reducible first | exact HB.out | apply below_alloc | apply pw_below_drewN | apply below_drew1) | exact HB.out)) hb); clear HB; have HB := n0_; clear n0_; (try clear hb); (try clear hb2); (try clear hk); (try clear hi)))
                    go_ret
                    exact ⟨by first | rfl | (simp [errW_none, errW_some] <;> rfl) | (simp [*, errW_none, errW_some] <;> rfl), by repeat (first | (with_reducible first | exact HB.out | apply below_alloc | apply pw_below_drewN | apply below_drew1) | exact HB.out)⟩
                  · rw [if_neg c41] at H
                    have c41b0 : (t321 == t322) = false := beq_eq_false_iff_ne.mpr c41
                    have c41b1 : (t321 != t322) = true := bne_iff_ne.mpr c41
                    obtain rfl := Option.some.inj H
                    go_wp2_with (first | ((with_reducible refine gate_callee (f := 26) rfl ?_); refine goesL_ (some 51) rfl rfl Try.func26 (by kernel_rfl) rfl #[.int .i64 (wrap64 (t304 + t305))] rfl (by (try simp only [List.map_toArray, List.map_cons, List.map_nil]); first | done | rfl | (simp only [List.length_drop, List.length_take]; rfl)) ?_; (with_reducible refine (civil_Date.calls (wrap64 (t304 + t305)) t313 t314 t315 t316 _ A17.out).mono ?_); rintro e w45 ⟨rfl, hb⟩; refine ⟨_, rfl, ?_⟩; have n0_ := Aside0.mk (below_step (by repeat (first | (with_reducible first | exact HB.out | apply below_alloc | apply pw_below_drewN | apply below_drew1) | exact HB.out)) hb); clear HB; have HB := n0_; clear n0_; (try clear hb); (try clear hb2); (try clear hk); (try clear hi)) | ((with_reducible refine gate_callee (f := 11) rfl ?_); refine goesL_ (some 57) rfl rfl Try.func11 (by kernel_rfl) rfl #[.int .i64 t313] rfl (by (try simp only [List.map_toArray, List.map_cons, List.map_nil]); first | done | rfl | (simp only [List.length_drop, List.length_take]; rfl)) ?_; (with_reducible refine (civil_Leap.calls t313 false _ A18.out).mono ?_); rintro e w' ⟨rfl, ⟨nd, rfl⟩⟩; refine ⟨_, rfl, ?_⟩) | (go_at_call 32; (with_reducible refine (civil_Weekday.calls (wrap64 (t304 + t305)) t321 _ A39.out).mono ?_); rintro e w' ⟨rfl, ⟨nd, rfl⟩⟩) | (go_at_call 32; (with_reducible refine (civil_Weekday.calls (wrap64 ((wrap64 (t304 + t305)) + 7)) t322 _ A40.out).mono ?_); rintro e w' ⟨rfl, ⟨nd, rfl⟩⟩))
                    go_ret
                    exact ⟨by first | rfl | (simp [errW_none, errW_some] <;> rfl) | (simp [*, errW_none, errW_some] <;> rfl), by repeat (first | (with_reducible first | exact HB.out | apply below_alloc | apply pw_below_drewN | apply below_drew1) | exact HB.out)⟩
                · rw [if_neg c38] at H
                  have c38b0 : decide (t309 ≤ 53) = false := decide_eq_false c38
                  clear c38
                  obtain rfl := Option.some.inj H
                  go_wp2_with (first | ((with_reducible refine gate_callee (f := 26) rfl ?_); refine goesL_ (some 51) rfl rfl Try.func26 (by kernel_rfl) rfl #[.int .i64 (wrap64 (t304 + t305))] rfl (by (try simp only [List.map_toArray, List.map_cons, List.map_nil]); first | done | rfl | (simp only [List.length_drop, List.length_take]; rfl)) ?_; (with_reducible refine (civil_Date.calls (wrap64 (t304 + t305)) t313 t314 t315 t316 _ A17.out).mono ?_); rintro e w46 ⟨rfl, hb⟩; refine ⟨_, rfl, ?_⟩; have n0_ := Aside0.mk (below_step (by repeat (first | (with_reducible first | exact HB.out | apply below_alloc | apply pw_below_drewN | apply below_drew1) | exact HB.out)) hb); clear HB; have HB := n0_; clear n0_; (try clear hb); (try clear hb2); (try clear hk); (try clear hi)) | ((with_reducible refine gate_callee (f := 11) rfl ?_); refine goesL_ (some 57) rfl rfl Try.func11 (by kernel_rfl) rfl #[.int .i64 t313] rfl (by (try simp only [List.map_toArray, List.map_cons, List.map_nil]); first | done | rfl | (simp only [List.length_drop, List.length_take]; rfl)) ?_; (with_reducible refine (civil_Leap.calls t313 false _ A18.out).mono ?_); rintro e w' ⟨rfl, ⟨nd, rfl⟩⟩; refine ⟨_, rfl, ?_⟩))
                  go_ret
                  exact ⟨by first | rfl | (simp [errW_none, errW_some] <;> rfl) | (simp [*, errW_none, errW_some] <;> rfl), by repeat (first | (with_reducible first | exact HB.out | apply below_alloc | apply pw_below_drewN | apply below_drew1) | exact HB.out)⟩
              · rw [if_neg c37] at H
                have c37b0 : decide (1 ≤ t309) = false := decide_eq_false c37
                clear c37
                obtain rfl := Option.some.inj H
                go_wp2_with (first | ((with_reducible refine gate_callee (f := 26) rfl ?_); refine goesL_ (some 51) rfl rfl Try.func26 (by kernel_rfl) rfl #[.int .i64 (wrap64 (t304 + t305))] rfl (by (try simp only [List.map_toArray, List.map_cons, List.map_nil]); first | done | rfl | (simp only [List.length_drop, List.length_take]; rfl)) ?_; (with_reducible refine (civil_Date.calls (wrap64 (t304 + t305)) t313 t314 t315 t316 _ A17.out).mono ?_); rintro e w47 ⟨rfl, hb⟩; refine ⟨_, rfl, ?_⟩; have n0_ := Aside0.mk (below_step (by repeat (first | (with_reducible first | exact HB.out | apply below_alloc | apply pw_below_drewN | apply below_drew1) | exact HB.out)) hb); clear HB; have HB := n0_; clear n0_; (try clear hb); (try clear hb2); (try clear hk); (try clear hi)) | ((with_reducible refine gate_callee (f := 11) rfl ?_); refine goesL_ (some 57) rfl rfl Try.func11 (by kernel_rfl) rfl #[.int .i64 t313] rfl (by (try simp only [List.map_toArray, List.map_cons, List.map_nil]); first | done | rfl | (simp only [List.length_drop, List.length_take]; rfl)) ?_; (with_reducible refine (civil_Leap.calls t313 false _ A18.out).mono ?_); rintro e w' ⟨rfl, ⟨nd, rfl⟩⟩; refine ⟨_, rfl, ?_⟩))
                go_ret
                exact ⟨by first | rfl | (simp [errW_none, errW_some] <;> rfl) | (simp [*, errW_none, errW_some] <;> rfl), by repeat (first | (with_reducible first | exact HB.out | apply below_alloc | apply pw_below_drewN | apply below_drew1) | exact HB.out)⟩
            · rw [if_neg c36] at H
              have c36b0 : decide (t306 ≤ 365) = false := decide_eq_false c36
              clear c36
              obtain rfl := Option.some.inj H
              go_wp2_with (first | ((with_reducible refine gate_callee (f := 26) rfl ?_); refine goesL_ (some 51) rfl rfl Try.func26 (by kernel_rfl) rfl #[.int .i64 (wrap64 (t304 + t305))] rfl (by (try simp only [List.map_toArray, List.map_cons, List.map_nil]); first | done | rfl | (simp only [List.length_drop, List.length_take]; rfl)) ?_; (with_reducible refine (civil_Date.calls (wrap64 (t304 + t305)) t313 t314 t315 t316 _ A17.out).mono ?_); rintro e w48 ⟨rfl, hb⟩; refine ⟨_, rfl, ?_⟩; have n0_ := Aside0.mk (below_step (by repeat (first | (with_reducible first | exact HB.out | apply below_alloc | apply pw_below_drewN | apply below_drew1) | exact HB.out)) hb); clear HB; have HB := n0_; clear n0_; (try clear hb); (try clear hb2); (try clear hk); (try clear hi)) | ((with_reducible refine gate_callee (f := 11) rfl ?_); refine goesL_ (some 57) rfl rfl Try.func11 (by kernel_rfl) rfl #[.int .i64 t313] rfl (by (try simp only [List.map_toArray, List.map_cons, List.map_nil]); first | done | rfl | (simp only [List.length_drop, List.length_take]; rfl)) ?_; (with_reducible refine (civil_Leap.calls t313 false _ A18.out).mono ?_); rintro e w' ⟨rfl, ⟨nd, rfl⟩⟩; refine ⟨_, rfl, ?_⟩))
              go_ret
              exact ⟨by first | rfl | (simp [errW_none, errW_some] <;> rfl) | (simp [*, errW_none, errW_some] <;> rfl), by repeat (first | (with_reducible first | exact HB.out | apply below_alloc | apply pw_below_drewN | apply below_drew1) | exact HB.out)⟩
          · rw [if_neg c35] at H
            have c35b0 : decide (1 ≤ t306) = false := decide_eq_false c35
            clear c35
            obtain rfl := Option.some.inj H
            go_wp2_with (first | ((with_reducible refine gate_callee (f := 26) rfl ?_); refine goesL_ (some 51) rfl rfl Try.func26 (by kernel_rfl) rfl #[.int .i64 (wrap64 (t304 + t305))] rfl (by (try simp only [List.map_toArray, List.map_cons, List.map_nil]); first | done | rfl | (simp only [List.length_drop, List.length_take]; rfl)) ?_; (with_reducible refine (civil_Date.calls (wrap64 (t304 + t305)) t313 t314 t315 t316 _ A17.out).mono ?_); rintro e w49 ⟨rfl, hb⟩; refine ⟨_, rfl, ?_⟩; have n0_ := Aside0.mk (below_step (by repeat (first | (with_reducible first | exact HB.out | apply below_alloc | apply pw_below_drewN | apply below_drew1) | exact HB.out)) hb); clear HB; have HB := n0_; clear n0_; (try clear hb); (try clear hb2); (try clear hk); (try clear hi)) | ((with_reducible refine gate_callee (f := 11) rfl ?_); refine goesL_ (some 57) rfl rfl Try.func11 (by kernel_rfl) rfl #[.int .i64 t313] rfl (by (try simp only [List.map_toArray, List.map_cons, List.map_nil]); first | done | rfl | (simp only [List.length_drop, List.length_take]; rfl)) ?_; (with_reducible refine (civil_Leap.calls t313 false _ A18.out).mono ?_); rintro e w' ⟨rfl, ⟨nd, rfl⟩⟩; refine ⟨_, rfl, ?_⟩))
            go_ret
            exact ⟨by first | rfl | (simp [errW_none, errW_some] <;> rfl) | (simp [*, errW_none, errW_some] <;> rfl), by repeat (first | (with_reducible first | exact HB.out | apply below_alloc | apply pw_below_drewN | apply below_drew1) | exact HB.out)⟩

/-- THE ONE PURE STATEMENT of computuslaw02_CivilParts: yours. -/
def computuslaw02_CivilParts.Pure : Prop := ∀ (a0 : Int), (Lit.int .i64 a0).wf = true → ∃ k, computuslaw02_CivilParts.f k a0 = some true
theorem computuslaw02_CivilParts.walk (P : computuslaw02_CivilParts.Pure) (a0 : Int) (w : World) (w0 : (Lit.int .i64 a0).wf = true) :
    Calls Try.prog 9 #[.int .i64 a0] w fun e w' => e = .returned (.bool true) ∧ Below w.heap.size w w' := by
  obtain ⟨k, h⟩ := P a0 w0
  refine (computuslaw02_CivilParts.calls k a0 true w h).mono ?_
  rintro e w' ⟨rfl, hd⟩
  exact ⟨rfl, hd⟩

end Go.Proofs.Ytjdoafjpdnfmdaa.P
