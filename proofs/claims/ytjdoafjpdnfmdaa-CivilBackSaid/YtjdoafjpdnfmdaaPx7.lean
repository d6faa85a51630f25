-- Written by a program of the session (a print of the seat's translation, functions given by hand among it). Lean checks it.
import Derived.Test.YtjdoafjpdnfmdaaPx0
import Derived.Test.YtjdoafjpdnfmdaaPx1
import Derived.Test.YtjdoafjpdnfmdaaPx2
import Derived.Test.YtjdoafjpdnfmdaaPx3
import Derived.Test.YtjdoafjpdnfmdaaPx4
import Derived.Test.YtjdoafjpdnfmdaaPx5
namespace Go.Proofs.Ytjdoafjpdnfmdaa.P
open Go.RowKit Go.Proofs.YtjdoafjpdnfmdaaW.PrintWords Go.Proofs.YtjdoafjpdnfmdaaW.PrintLast Go.Proofs.YtjdoafjpdnfmdaaW.PrintMore
attribute [local go_sem] max2_int min2_int max_two min_two max_three min_three max_four min_four   -- for this text's walks alone
set_option linter.unusedVariables false
set_option linter.unusedSimpArgs false

/-! ### computuslaw02_CivilBack: function 7 -/
def computuslaw02_CivilBack.j0 : Nat → Int → Int → Int → Int → Bool → Option (Bool)
  | 0, _, _, _, _, _ => none
  | k + 1, x0, x3, x4, x5, x49 => if x49 = true then (some false) else ((civil_Date.f (wrap64 (x0 + 1))).bind fun bt257 => (if bt257.2.2.2 = 0 then (if bt257.1 = x3 then (if bt257.2.1 = x4 then (if bt257.2.2.1 = (wrap64 (x5 + 1)) then ((civil_Weekday.f (wrap64 (x0 + 1))).bind fun t263 => ((civil_Weekday.f x0).bind fun t264 => (if t263 = (Int.tmod (wrap64 (t264 + 1)) 7) then ((computuslaw02_known.f k).bind fun t265 => (some t265)) else (some false)))) else (if bt257.2.1 = (wrap64 (x4 + 1)) then (if bt257.2.2.1 = 1 then ((civil_Len.f x3 x4).bind fun t266 => (if x5 = t266 then ((civil_Weekday.f (wrap64 (x0 + 1))).bind fun t267 => ((civil_Weekday.f x0).bind fun t268 => (if t267 = (Int.tmod (wrap64 (t268 + 1)) 7) then ((computuslaw02_known.f k).bind fun t269 => (some t269)) else (some false)))) else (if bt257.1 = (wrap64 (x3 + 1)) then (if bt257.2.1 = 1 then (if x4 = 12 then (if x5 = 31 then ((civil_Weekday.f (wrap64 (x0 + 1))).bind fun t270 => ((civil_Weekday.f x0).bind fun t271 => (if t270 = (Int.tmod (wrap64 (t271 + 1)) 7) then ((computuslaw02_known.f k).bind fun t272 => (some t272)) else (some false)))) else (some false)) else (some false)) else (some false)) else (some false)))) else (if bt257.1 = (wrap64 (x3 + 1)) then (if bt257.2.1 = 1 then (some false) else (some false)) else (some false))) else (if bt257.1 = (wrap64 (x3 + 1)) then (if bt257.2.1 = 1 then (if bt257.2.2.1 = 1 then (if x4 = 12 then (if x5 = 31 then ((civil_Weekday.f (wrap64 (x0 + 1))).bind fun t273 => ((civil_Weekday.f x0).bind fun t274 => (if t273 = (Int.tmod (wrap64 (t274 + 1)) 7) then ((computuslaw02_known.f k).bind fun t275 => (some t275)) else (some false)))) else (some false)) else (some false)) else (some false)) else (some false)) else (some false)))) else (if bt257.2.1 = (wrap64 (x4 + 1)) then (if bt257.2.2.1 = 1 then ((civil_Len.f x3 x4).bind fun t276 => (if x5 = t276 then ((civil_Weekday.f (wrap64 (x0 + 1))).bind fun t277 => ((civil_Weekday.f x0).bind fun t278 => (if t277 = (Int.tmod (wrap64 (t278 + 1)) 7) then ((computuslaw02_known.f k).bind fun t279 => (some t279)) else (some false)))) else (if bt257.1 = (wrap64 (x3 + 1)) then (if bt257.2.1 = 1 then (if x4 = 12 then (if x5 = 31 then ((civil_Weekday.f (wrap64 (x0 + 1))).bind fun t280 => ((civil_Weekday.f x0).bind fun t281 => (if t280 = (Int.tmod (wrap64 (t281 + 1)) 7) then ((computuslaw02_known.f k).bind fun t282 => (some t282)) else (some false)))) else (some false)) else (some false)) else (some false)) else (some false)))) else (if bt257.1 = (wrap64 (x3 + 1)) then (if bt257.2.1 = 1 then (some false) else (some false)) else (some false))) else (if bt257.1 = (wrap64 (x3 + 1)) then (if bt257.2.1 = 1 then (if bt257.2.2.1 = 1 then (if x4 = 12 then (if x5 = 31 then ((civil_Weekday.f (wrap64 (x0 + 1))).bind fun t283 => ((civil_Weekday.f x0).bind fun t284 => (if t283 = (Int.tmod (wrap64 (t284 + 1)) 7) then ((computuslaw02_known.f k).bind fun t285 => (some t285)) else (some false)))) else (some false)) else (some false)) else (some false)) else (some false)) else (some false)))) else (if bt257.1 = (wrap64 (x3 + 1)) then (if bt257.2.1 = 1 then (if bt257.2.2.1 = 1 then (if x4 = 12 then (if x5 = 31 then ((civil_Weekday.f (wrap64 (x0 + 1))).bind fun t286 => ((civil_Weekday.f x0).bind fun t287 => (if t286 = (Int.tmod (wrap64 (t287 + 1)) 7) then ((computuslaw02_known.f k).bind fun t288 => (some t288)) else (some false)))) else (some false)) else (some false)) else (some false)) else (some false)) else (some false))) else ((civil_Last.f).bind fun t261 => (if x0 = t261 then ((computuslaw02_known.f k).bind fun t262 => (some t262)) else (some false)))))
def computuslaw02_CivilBack.f (k : Nat) (a0 : Int) : Option (Bool) := (civil_Date.f a0).bind fun bt248 => (if bt248.2.2.2 = 0 then ((civil_Days.f bt248.1 bt248.2.1 bt248.2.2.1).bind fun bt254 => (if bt254.1 = a0 then (if bt254.2 = 0 then ((civil_Right.f bt248.1 bt248.2.1 bt248.2.2.1).bind fun t256 => (computuslaw02_CivilBack.j0 k a0 bt248.1 bt248.2.1 bt248.2.2.1 (!t256))) else (computuslaw02_CivilBack.j0 k a0 bt248.1 bt248.2.1 bt248.2.2.1 true)) else (computuslaw02_CivilBack.j0 k a0 bt248.1 bt248.2.1 bt248.2.2.1 true))) else ((computusref02_Can.f k a0).bind fun t252 => (if t252 = true then (some false) else ((computuslaw02_known.f k).bind fun t253 => (some t253)))))
theorem computuslaw02_CivilBack.mono_l : ∀ k, (∀ y0 y1 y2 y3 y4, LeO (computuslaw02_CivilBack.j0 k y0 y1 y2 y3 y4) (computuslaw02_CivilBack.j0 (k + 1) y0 y1 y2 y3 y4))
  | 0 => fun _ _ _ _ _ r h => by simp [computuslaw02_CivilBack.j0] at h
  | k + 1 => by
    have ih0 := computuslaw02_CivilBack.mono_l k
    · intro y0 y1 y2 y3 y4
      unfold computuslaw02_CivilBack.j0
      repeat' first
      | (with_reducible exact ih0 _ _ _ _ _)
      | (with_reducible exact computuslaw02_known.mono _)
      | (with_reducible exact computusref02_Can.mono _ _)
      | (with_reducible exact LeO.refl _)
      | (with_reducible exact LeO.none _)
      | (with_reducible refine LeO.ite ?_ ?_)
      | (with_reducible refine LeO.bind ?_ (fun _ => ?_))
      | exact ih0 _ _ _ _ _
      | exact computuslaw02_known.mono _
      | exact computusref02_Can.mono _ _
      | exact LeO.none _
      | refine LeO.ite ?_ ?_
      | refine LeO.bind ?_ (fun _ => ?_)
theorem computuslaw02_CivilBack.mono : ∀ a0 k, LeO (computuslaw02_CivilBack.f k a0) (computuslaw02_CivilBack.f (k + 1) a0) := by
  intro a0 k
  have ih0 := computuslaw02_CivilBack.mono_l k
  unfold computuslaw02_CivilBack.f
  repeat' first
      | (with_reducible exact ih0 _ _ _ _ _)
      | (with_reducible exact computuslaw02_known.mono _)
      | (with_reducible exact computusref02_Can.mono _ _)
      | (with_reducible exact LeO.refl _)
      | (with_reducible exact LeO.none _)
      | (with_reducible refine LeO.ite ?_ ?_)
      | (with_reducible refine LeO.bind ?_ (fun _ => ?_))
      | exact ih0 _ _ _ _ _
      | exact computuslaw02_known.mono _
      | exact computusref02_Can.mono _ _
      | exact LeO.none _
      | refine LeO.ite ?_ ?_
      | refine LeO.bind ?_ (fun _ => ?_)
set_option maxHeartbeats 8000000 in
set_option maxRecDepth 100000 in
theorem computuslaw02_CivilBack.calls (k : Nat) (a0 : Int) (r : Bool) (w : World) (h : computuslaw02_CivilBack.f k a0 = some r) :
    Calls Try.prog 7 #[.int .i64 a0] w fun e w' => e = .returned (.bool r) ∧ Below w.heap.size w w' := by
  have HB := Aside0.mk (Below.refl w.heap.size w)
  have H : ((civil_Date.f a0).bind fun bt248 => (if bt248.2.2.2 = 0 then ((civil_Days.f bt248.1 bt248.2.1 bt248.2.2.1).bind fun bt254 => (if bt254.1 = a0 then (if bt254.2 = 0 then ((civil_Right.f bt248.1 bt248.2.1 bt248.2.2.1).bind fun t256 => (computuslaw02_CivilBack.j0 k a0 bt248.1 bt248.2.1 bt248.2.2.1 (!t256))) else (computuslaw02_CivilBack.j0 k a0 bt248.1 bt248.2.1 bt248.2.2.1 true)) else (computuslaw02_CivilBack.j0 k a0 bt248.1 bt248.2.1 bt248.2.2.1 true))) else ((computusref02_Can.f k a0).bind fun t252 => (if t252 = true then (some false) else ((computuslaw02_known.f k).bind fun t253 => (some t253)))))) = some r := h
  clear h
  replace H := Option.bind_eq_some_iff.mp H
  obtain ⟨⟨t248, t249, t250, t251⟩, A20, H⟩ := H
  replace H : (if t251 = 0 then ((civil_Days.f t248 t249 t250).bind fun bt254 => (if bt254.1 = a0 then (if bt254.2 = 0 then ((civil_Right.f t248 t249 t250).bind fun t256 => (computuslaw02_CivilBack.j0 k a0 t248 t249 t250 (!t256))) else (computuslaw02_CivilBack.j0 k a0 t248 t249 t250 true)) else (computuslaw02_CivilBack.j0 k a0 t248 t249 t250 true))) else ((computusref02_Can.f k a0).bind fun t252 => (if t252 = true then (some false) else ((computuslaw02_known.f k).bind fun t253 => (some t253))))) = some r := H
  have A2 := Aside0.mk A20
  clear A20
  by_cases c3 : t251 = 0
  · rw [if_pos c3] at H
    have c3b0 : (t251 == 0) = true := beq_iff_eq.mpr c3
    have c3b1 : (t251 != 0) = false := bne_eq_false_iff_eq.mpr c3
    clear c3
    replace H := Option.bind_eq_some_iff.mp H
    obtain ⟨⟨t254, t255⟩, A40, H⟩ := H
    replace H : (if t254 = a0 then (if t255 = 0 then ((civil_Right.f t248 t249 t250).bind fun t256 => (computuslaw02_CivilBack.j0 k a0 t248 t249 t250 (!t256))) else (computuslaw02_CivilBack.j0 k a0 t248 t249 t250 true)) else (computuslaw02_CivilBack.j0 k a0 t248 t249 t250 true)) = some r := H
    have A4 := Aside0.mk A40
    clear A40
    have HC5 := Aside0.mk H
    clear H
    go_enter Try.func7, Try.ntmps7
    go_upto_region 5 with (first | ((with_reducible refine gate_callee (f := 26) rfl ?_); refine goesL_ (some 16) rfl rfl Try.func26 (by kernel_rfl) rfl #[.int .i64 a0] rfl (by (try simp only [List.map_toArray, List.map_cons, List.map_nil]); first | done | rfl | (simp only [List.length_drop, List.length_take]; rfl)) ?_; (with_reducible refine (civil_Date.calls a0 t248 t249 t250 t251 _ A2.out).mono ?_); rintro e w6 ⟨rfl, hb⟩; refine ⟨_, rfl, ?_⟩; have n0_ := Aside0.mk (below_step (by repeat (first | (with_reducible first | exact HB.out | apply below_alloc | apply pw_below_drewN | apply below_drew1) | exact HB.out)) hb); clear HB; have HB := n0_; clear n0_; (try clear hb); (try clear hb2); (try clear hk); (try clear hi)) | ((with_reducible refine gate_callee (f := 24) rfl ?_); refine goesL_ (some 33) rfl rfl Try.func24 (by kernel_rfl) rfl #[.int .i64 t248, .int .i64 t249, .int .i64 t250] rfl (by (try simp only [List.map_toArray, List.map_cons, List.map_nil]); first | done | rfl | (simp only [List.length_drop, List.length_take]; rfl)) ?_; (with_reducible refine (civil_Days.calls t248 t249 t250 t254 t255 _ A4.out).mono ?_); rintro e w7 ⟨rfl, hb⟩; refine ⟨_, rfl, ?_⟩; have n0_ := Aside0.mk (below_step (by repeat (first | (with_reducible first | exact HB.out | apply below_alloc | apply pw_below_drewN | apply below_drew1) | exact HB.out)) hb); clear HB; have HB := n0_; clear n0_; (try clear hb); (try clear hb2); (try clear hk); (try clear hi)))
    (try simp only [Act.put, List.setIfInBounds_toArray, List.set_cons_zero, List.set_cons_succ])
    go_cut [49] (fun v49 wc => ∃ (kq : Nat) (x49_4 : Bool), v49 = .bool x49_4 ∧ Aside0 (computuslaw02_CivilBack.j0 kq a0 t248 t249 t250 x49_4 = some r) ∧ Aside0 (kq ≤ k) ∧ Aside0 (Below w.heap.size w wc))
    case first =>
      have H := HC5.out
      clear HC5
      by_cases c8 : t254 = a0
      · rw [if_pos c8] at H
        have c8b0 : (t254 == a0) = true := beq_iff_eq.mpr c8
        have c8b1 : (t254 != a0) = false := bne_eq_false_iff_eq.mpr c8
        clear c8
        (first | rw [c8b0] | (simp only [i64_w, i32_w]; rw [c8b0]) | skip)
        by_cases c9 : t255 = 0
        · rw [if_pos c9] at H
          have c9b0 : (t255 == 0) = true := beq_iff_eq.mpr c9
          have c9b1 : (t255 != 0) = false := bne_eq_false_iff_eq.mpr c9
          clear c9
          replace H := Option.bind_eq_some_iff.mp H
          obtain ⟨t256, A100, H⟩ := H
          replace H : (computuslaw02_CivilBack.j0 k a0 t248 t249 t250 (!t256)) = some r := H
          have A10 := Aside0.mk A100
          clear A100
          have H' := Aside0.mk H
          clear H
          go_wp2_with (first | (go_at_call 15; (with_reducible refine (civil_Right.calls t248 t249 t250 t256 _ A10.out).mono ?_); rintro e w11 ⟨rfl, hb⟩; have n0_ := Aside0.mk (below_step (by repeat (first | (with_reducible first | exact HB.out | apply below_alloc | apply pw_below_drewN | apply below_drew1) | exact HB.out)) hb); clear HB; have HB := n0_; clear n0_; (try clear hb); (try clear hb2); (try clear hk); (try clear hi)))
          go_meet
          case rel => exact ⟨_, (!t256), (by first | rfl | (simp; done) | (simp [*]; done)), H', ⟨by first | omega | exact Nat.le_refl _⟩, ⟨by repeat (first | (with_reducible first | exact HB.out | apply below_alloc | apply pw_below_drewN | apply below_drew1) | exact HB.out)⟩⟩
        · rw [if_neg c9] at H
          have c9b0 : (t255 == 0) = false := beq_eq_false_iff_ne.mpr c9
          have c9b1 : (t255 != 0) = true := bne_iff_ne.mpr c9
          have H' := Aside0.mk H
          clear H
          go_wp2
          go_meet
          case rel => exact ⟨_, (true), (by first | rfl | (simp; done) | (simp [*]; done)), H', ⟨by first | omega | exact Nat.le_refl _⟩, ⟨by repeat (first | (with_reducible first | exact HB.out | apply below_alloc | apply pw_below_drewN | apply below_drew1) | exact HB.out)⟩⟩
      · rw [if_neg c8] at H
        have c8b0 : (t254 == a0) = false := beq_eq_false_iff_ne.mpr c8
        have c8b1 : (t254 != a0) = true := bne_iff_ne.mpr c8
        (first | rw [c8b0] | (simp only [i64_w, i32_w]; rw [c8b0]) | skip)
        have H' := Aside0.mk H
        clear H
        go_wp2
        go_meet
        case rel => exact ⟨_, (true), (by first | rfl | (simp; done) | (simp [*]; done)), H', ⟨by first | omega | exact Nat.le_refl _⟩, ⟨by repeat (first | (with_reducible first | exact HB.out | apply below_alloc | apply pw_below_drewN | apply below_drew1) | exact HB.out)⟩⟩
    case rest =>
      clear HC5
      try clear c2
      try clear p2
      try clear c3
      try clear c3b0
      try clear c3b1
      try clear c7
      try clear c8
      try clear c8b0
      try clear c8b1
      try clear c9
      try clear c9b0
      try clear c9b1
      obtain ⟨kq, x49_4, rfl, HA, HJ4, HB⟩ := hcut
      cases kq with
      | zero => exact absurd HA.out (by simp [computuslaw02_CivilBack.j0])
      | succ kj4 =>
        have H := HA.out
        clear HA
        simp only [computuslaw02_CivilBack.j0] at H
        by_cases c12 : x49_4 = true
        · subst c12
          have H1 : (some false) = some r := by rw [if_pos rfl] at H; exact H
          clear H
          have H := H1
          clear H1
          obtain rfl := Option.some.inj H
          go_wp2
          go_ret
          exact ⟨by first | rfl | (simp [errW_none, errW_some] <;> rfl) | (simp [*, errW_none, errW_some] <;> rfl), by repeat (first | (with_reducible first | exact HB.out | apply below_alloc | apply pw_below_drewN | apply below_drew1) | exact HB.out)⟩
        · replace c12 := Bool.eq_false_iff.mpr c12
          subst c12
          have H1 : ((civil_Date.f (wrap64 (a0 + 1))).bind fun bt257 => (if bt257.2.2.2 = 0 then (if bt257.1 = t248 then (if bt257.2.1 = t249 then (if bt257.2.2.1 = (wrap64 (t250 + 1)) then ((civil_Weekday.f (wrap64 (a0 + 1))).bind fun t263 => ((civil_Weekday.f a0).bind fun t264 => (if t263 = (Int.tmod (wrap64 (t264 + 1)) 7) then ((computuslaw02_known.f kj4).bind fun t265 => (some t265)) else (some false)))) else (if bt257.2.1 = (wrap64 (t249 + 1)) then (if bt257.2.2.1 = 1 then ((civil_Len.f t248 t249).bind fun t266 => (if t250 = t266 then ((civil_Weekday.f (wrap64 (a0 + 1))).bind fun t267 => ((civil_Weekday.f a0).bind fun t268 => (if t267 = (Int.tmod (wrap64 (t268 + 1)) 7) then ((computuslaw02_known.f kj4).bind fun t269 => (some t269)) else (some false)))) else (if bt257.1 = (wrap64 (t248 + 1)) then (if bt257.2.1 = 1 then (if t249 = 12 then (if t250 = 31 then ((civil_Weekday.f (wrap64 (a0 + 1))).bind fun t270 => ((civil_Weekday.f a0).bind fun t271 => (if t270 = (Int.tmod (wrap64 (t271 + 1)) 7) then ((computuslaw02_known.f kj4).bind fun t272 => (some t272)) else (some false)))) else (some false)) else (some false)) else (some false)) else (some false)))) else (if bt257.1 = (wrap64 (t248 + 1)) then (if bt257.2.1 = 1 then (some false) else (some false)) else (some false))) else (if bt257.1 = (wrap64 (t248 + 1)) then (if bt257.2.1 = 1 then (if bt257.2.2.1 = 1 then (if t249 = 12 then (if t250 = 31 then ((civil_Weekday.f (wrap64 (a0 + 1))).bind fun t273 => ((civil_Weekday.f a0).bind fun t274 => (if t273 = (Int.tmod (wrap64 (t274 + 1)) 7) then ((computuslaw02_known.f kj4).bind fun t275 => (some t275)) else (some false)))) else (some false)) else (some false)) else (some false)) else (some false)) else (some false)))) else (if bt257.2.1 = (wrap64 (t249 + 1)) then (if bt257.2.2.1 = 1 then ((civil_Len.f t248 t249).bind fun t276 => (if t250 = t276 then ((civil_Weekday.f (wrap64 (a0 + 1))).bind fun t277 => ((civil_Weekday.f a0).bind fun t278 => (if t277 = (Int.tmod (wrap64 (t278 + 1)) 7) then ((computuslaw02_known.f kj4).bind fun t279 => (some t279)) else (some false)))) else (if bt257.1 = (wrap64 (t248 + 1)) then (if bt257.2.1 = 1 then (if t249 = 12 then (if t250 = 31 then ((civil_Weekday.f (wrap64 (a0 + 1))).bind fun t280 => ((civil_Weekday.f a0).bind fun t281 => (if t280 = (Int.tmod (wrap64 (t281 + 1)) 7) then ((computuslaw02_known.f kj4).bind fun t282 => (some t282)) else (some false)))) else (some false)) else (some false)) else (some false)) else (some false)))) else (if bt257.1 = (wrap64 (t248 + 1)) then (if bt257.2.1 = 1 then (some false) else (some false)) else (some false))) else (if bt257.1 = (wrap64 (t248 + 1)) then (if bt257.2.1 = 1 then (if bt257.2.2.1 = 1 then (if t249 = 12 then (if t250 = 31 then ((civil_Weekday.f (wrap64 (a0 + 1))).bind fun t283 => ((civil_Weekday.f a0).bind fun t284 => (if t283 = (Int.tmod (wrap64 (t284 + 1)) 7) then ((computuslaw02_known.f kj4).bind fun t285 => (some t285)) else (some false)))) else (some false)) else (some false)) else (some false)) else (some false)) else (some false)))) else (if bt257.1 = (wrap64 (t248 + 1)) then (if bt257.2.1 = 1 then (if bt257.2.2.1 = 1 then (if t249 = 12 then (if t250 = 31 then ((civil_Weekday.f (wrap64 (a0 + 1))).bind fun t286 => ((civil_Weekday.f a0).bind fun t287 => (if t286 = (Int.tmod (wrap64 (t287 + 1)) 7) then ((computuslaw02_known.f kj4).bind fun t288 => (some t288)) else (some false)))) else (some false)) else (some false)) else (some false)) else (some false)) else (some false))) else ((civil_Last.f).bind fun t261 => (if a0 = t261 then ((computuslaw02_known.f kj4).bind fun t262 => (some t262)) else (some false))))) = some r := by rw [if_neg (show ¬ (false = true) by decide)] at H; exact H
          clear H
          have H := H1
          clear H1
          replace H := Option.bind_eq_some_iff.mp H
          obtain ⟨⟨t257, t258, t259, t260⟩, A130, H⟩ := H
          replace H : (if t260 = 0 then (if t257 = t248 then (if t258 = t249 then (if t259 = (wrap64 (t250 + 1)) then ((civil_Weekday.f (wrap64 (a0 + 1))).bind fun t263 => ((civil_Weekday.f a0).bind fun t264 => (if t263 = (Int.tmod (wrap64 (t264 + 1)) 7) then ((computuslaw02_known.f kj4).bind fun t265 => (some t265)) else (some false)))) else (if t258 = (wrap64 (t249 + 1)) then (if t259 = 1 then ((civil_Len.f t248 t249).bind fun t266 => (if t250 = t266 then ((civil_Weekday.f (wrap64 (a0 + 1))).bind fun t267 => ((civil_Weekday.f a0).bind fun t268 => (if t267 = (Int.tmod (wrap64 (t268 + 1)) 7) then ((computuslaw02_known.f kj4).bind fun t269 => (some t269)) else (some false)))) else (if t257 = (wrap64 (t248 + 1)) then (if t258 = 1 then (if t249 = 12 then (if t250 = 31 then ((civil_Weekday.f (wrap64 (a0 + 1))).bind fun t270 => ((civil_Weekday.f a0).bind fun t271 => (if t270 = (Int.tmod (wrap64 (t271 + 1)) 7) then ((computuslaw02_known.f kj4).bind fun t272 => (some t272)) else (some false)))) else (some false)) else (some false)) else (some false)) else (some false)))) else (if t257 = (wrap64 (t248 + 1)) then (if t258 = 1 then (some false) else (some false)) else (some false))) else (if t257 = (wrap64 (t248 + 1)) then (if t258 = 1 then (if t259 = 1 then (if t249 = 12 then (if t250 = 31 then ((civil_Weekday.f (wrap64 (a0 + 1))).bind fun t273 => ((civil_Weekday.f a0).bind fun t274 => (if t273 = (Int.tmod (wrap64 (t274 + 1)) 7) then ((computuslaw02_known.f kj4).bind fun t275 => (some t275)) else (some false)))) else (some false)) else (some false)) else (some false)) else (some false)) else (some false)))) else (if t258 = (wrap64 (t249 + 1)) then (if t259 = 1 then ((civil_Len.f t248 t249).bind fun t276 => (if t250 = t276 then ((civil_Weekday.f (wrap64 (a0 + 1))).bind fun t277 => ((civil_Weekday.f a0).bind fun t278 => (if t277 = (Int.tmod (wrap64 (t278 + 1)) 7) then ((computuslaw02_known.f kj4).bind fun t279 => (some t279)) else (some false)))) else (if t257 = (wrap64 (t248 + 1)) then (if t258 = 1 then (if t249 = 12 then (if t250 = 31 then ((civil_Weekday.f (wrap64 (a0 + 1))).bind fun t280 => ((civil_Weekday.f a0).bind fun t281 => (if t280 = (Int.tmod (wrap64 (t281 + 1)) 7) then ((computuslaw02_known.f kj4).bind fun t282 => (some t282)) else (some false)))) else (some false)) else (some false)) else (some false)) else (some false)))) else (if t257 = (wrap64 (t248 + 1)) then (if t258 = 1 then (some false) else (some false)) else (some false))) else (if t257 = (wrap64 (t248 + 1)) then (if t258 = 1 then (if t259 = 1 then (if t249 = 12 then (if t250 = 31 then ((civil_Weekday.f (wrap64 (a0 + 1))).bind fun t283 => ((civil_Weekday.f a0).bind fun t284 => (if t283 = (Int.tmod (wrap64 (t284 + 1)) 7) then ((computuslaw02_known.f kj4).bind fun t285 => (some t285)) else (some false)))) else (some false)) else (some false)) else (some false)) else (some false)) else (some false)))) else (if t257 = (wrap64 (t248 + 1)) then (if t258 = 1 then (if t259 = 1 then (if t249 = 12 then (if t250 = 31 then ((civil_Weekday.f (wrap64 (a0 + 1))).bind fun t286 => ((civil_Weekday.f a0).bind fun t287 => (if t286 = (Int.tmod (wrap64 (t287 + 1)) 7) then ((computuslaw02_known.f kj4).bind fun t288 => (some t288)) else (some false)))) else (some false)) else (some false)) else (some false)) else (some false)) else (some false))) else ((civil_Last.f).bind fun t261 => (if a0 = t261 then ((computuslaw02_known.f kj4).bind fun t262 => (some t262)) else (some false)))) = some r := H
          have A13 := Aside0.mk A130
          clear A130
          by_cases c14 : t260 = 0
          · rw [if_pos c14] at H
            have c14b0 : (t260 == 0) = true := beq_iff_eq.mpr c14
            have c14b1 : (t260 != 0) = false := bne_eq_false_iff_eq.mpr c14
            clear c14
            by_cases c15 : t257 = t248
            · rw [if_pos c15] at H
              have c15b0 : (t257 == t248) = true := beq_iff_eq.mpr c15
              have c15b1 : (t257 != t248) = false := bne_eq_false_iff_eq.mpr c15
              clear c15
              by_cases c16 : t258 = t249
              · rw [if_pos c16] at H
                have c16b0 : (t258 == t249) = true := beq_iff_eq.mpr c16
                have c16b1 : (t258 != t249) = false := bne_eq_false_iff_eq.mpr c16
                clear c16
                by_cases c17 : t259 = (wrap64 (t250 + 1))
                · rw [if_pos c17] at H
                  have c17b0 : (t259 == (wrap64 (t250 + 1))) = true := beq_iff_eq.mpr c17
                  have c17b1 : (t259 != (wrap64 (t250 + 1))) = false := bne_eq_false_iff_eq.mpr c17
                  clear c17
                  replace H := Option.bind_eq_some_iff.mp H
                  obtain ⟨t263, A180, H⟩ := H
                  replace H : ((civil_Weekday.f a0).bind fun t264 => (if t263 = (Int.tmod (wrap64 (t264 + 1)) 7) then ((computuslaw02_known.f kj4).bind fun t265 => (some t265)) else (some false))) = some r := H
                  have A18 := Aside0.mk A180
                  clear A180
                  replace H := Option.bind_eq_some_iff.mp H
                  obtain ⟨t264, A190, H⟩ := H
                  replace H : (if t263 = (Int.tmod (wrap64 (t264 + 1)) 7) then ((computuslaw02_known.f kj4).bind fun t265 => (some t265)) else (some false)) = some r := H
                  have A19 := Aside0.mk A190
                  clear A190
                  by_cases c20 : t263 = (Int.tmod (wrap64 (t264 + 1)) 7)
                  · rw [if_pos c20] at H
                    have c20b0 : (t263 == (Int.tmod (wrap64 (t264 + 1)) 7)) = true := beq_iff_eq.mpr c20
                    have c20b1 : (t263 != (Int.tmod (wrap64 (t264 + 1)) 7)) = false := bne_eq_false_iff_eq.mpr c20
                    clear c20
                    replace H := Option.bind_eq_some_iff.mp H
                    obtain ⟨t265, A210, H⟩ := H
                    replace H : (some t265) = some r := H
                    have A21 := Aside0.mk A210
                    clear A210
                    obtain rfl := Option.some.inj H
                    go_wp2_with (first | ((with_reducible refine gate_callee (f := 26) rfl ?_); refine goesL_ (some 53) rfl rfl Try.func26 (by kernel_rfl) rfl #[.int .i64 (wrap64 (a0 + 1))] rfl (by (try simp only [List.map_toArray, List.map_cons, List.map_nil]); first | done | rfl | (simp only [List.length_drop, List.length_take]; rfl)) ?_; (with_reducible refine (civil_Date.calls (wrap64 (a0 + 1)) t257 t258 t259 t260 _ A13.out).mono ?_); rintro e w22 ⟨rfl, hb⟩; refine ⟨_, rfl, ?_⟩; have n0_ := Aside0.mk (below_step (by repeat (first | (with_reducible first | exact HB.out | apply below_alloc | apply pw_below_drewN | apply below_drew1) | exact HB.out)) hb); clear HB; have HB := n0_; clear n0_; (try clear hb); (try clear hb2); (try clear hk); (try clear hi)) | (go_at_call 32; (with_reducible refine (civil_Weekday.calls (wrap64 (a0 + 1)) t263 _ A18.out).mono ?_); rintro e w' ⟨rfl, ⟨nd, rfl⟩⟩) | (go_at_call 32; (with_reducible refine (civil_Weekday.calls a0 t264 _ A19.out).mono ?_); rintro e w' ⟨rfl, ⟨nd, rfl⟩⟩) | (go_at_call 21; (with_reducible refine (computuslaw02_known.calls kj4  t265 _ A21.out).mono ?_); rintro e w23 ⟨rfl, hb⟩; have n0_ := Aside0.mk (below_step (by repeat (first | (with_reducible first | exact HB.out | apply below_alloc | apply pw_below_drewN | apply below_drew1) | exact HB.out)) hb); clear HB; have HB := n0_; clear n0_; (try clear hb); (try clear hb2); (try clear hk); (try clear hi)))
                    go_ret
                    exact ⟨by first | rfl | (simp [errW_none, errW_some] <;> rfl) | (simp [*, errW_none, errW_some] <;> rfl), by repeat (first | (with_reducible first | exact HB.out | apply below_alloc | apply pw_below_drewN | apply below_drew1) | exact HB.out)⟩
                  · rw [if_neg c20] at H
                    have c20b0 : (t263 == (Int.tmod (wrap64 (t264 + 1)) 7)) = false := beq_eq_false_iff_ne.mpr c20
                    have c20b1 : (t263 != (Int.tmod (wrap64 (t264 + 1)) 7)) = true := bne_iff_ne.mpr c20
                    obtain rfl := Option.some.inj H
                    go_wp2_with (first | ((with_reducible refine gate_callee (f := 26) rfl ?_); refine goesL_ (some 53) rfl rfl Try.func26 (by kernel_rfl) rfl #[.int .i64 (wrap64 (a0 + 1))] rfl (by (try simp only [List.map_toArray, List.map_cons, List.map_nil]); first | done | rfl | (simp only [List.length_drop, List.length_take]; rfl)) ?_; (with_reducible refine (civil_Date.calls (wrap64 (a0 + 1)) t257 t258 t259 t260 _ A13.out).mono ?_); rintro e w24 ⟨rfl, hb⟩; refine ⟨_, rfl, ?_⟩; have n0_ := Aside0.mk (below_step (by repeat (first | (with_reducible first | exact HB.out | apply below_alloc | apply pw_below_drewN | apply below_drew1) | exact HB.out)) hb); clear HB; have HB := n0_; clear n0_; (try clear hb); (try clear hb2); (try clear hk); (try clear hi)) | (go_at_call 32; (with_reducible refine (civil_Weekday.calls (wrap64 (a0 + 1)) t263 _ A18.out).mono ?_); rintro e w' ⟨rfl, ⟨nd, rfl⟩⟩) | (go_at_call 32; (with_reducible refine (civil_Weekday.calls a0 t264 _ A19.out).mono ?_); rintro e w' ⟨rfl, ⟨nd, rfl⟩⟩))
                    go_ret
                    exact ⟨by first | rfl | (simp [errW_none, errW_some] <;> rfl) | (simp [*, errW_none, errW_some] <;> rfl), by repeat (first | (with_reducible first | exact HB.out | apply below_alloc | apply pw_below_drewN | apply below_drew1) | exact HB.out)⟩
                · rw [if_neg c17] at H
                  have c17b0 : (t259 == (wrap64 (t250 + 1))) = false := beq_eq_false_iff_ne.mpr c17
                  have c17b1 : (t259 != (wrap64 (t250 + 1))) = true := bne_iff_ne.mpr c17
                  by_cases c25 : t258 = (wrap64 (t249 + 1))
                  · rw [if_pos c25] at H
                    have c25b0 : (t258 == (wrap64 (t249 + 1))) = true := beq_iff_eq.mpr c25
                    have c25b1 : (t258 != (wrap64 (t249 + 1))) = false := bne_eq_false_iff_eq.mpr c25
                    clear c25
                    by_cases c26 : t259 = 1
                    · rw [if_pos c26] at H
                      have c26b0 : (t259 == 1) = true := beq_iff_eq.mpr c26
                      have c26b1 : (t259 != 1) = false := bne_eq_false_iff_eq.mpr c26
                      clear c26
                      replace H := Option.bind_eq_some_iff.mp H
                      obtain ⟨t266, A270, H⟩ := H
                      replace H : (if t250 = t266 then ((civil_Weekday.f (wrap64 (a0 + 1))).bind fun t267 => ((civil_Weekday.f a0).bind fun t268 => (if t267 = (Int.tmod (wrap64 (t268 + 1)) 7) then ((computuslaw02_known.f kj4).bind fun t269 => (some t269)) else (some false)))) else (if t257 = (wrap64 (t248 + 1)) then (if t258 = 1 then (if t249 = 12 then (if t250 = 31 then ((civil_Weekday.f (wrap64 (a0 + 1))).bind fun t270 => ((civil_Weekday.f a0).bind fun t271 => (if t270 = (Int.tmod (wrap64 (t271 + 1)) 7) then ((computuslaw02_known.f kj4).bind fun t272 => (some t272)) else (some false)))) else (some false)) else (some false)) else (some false)) else (some false))) = some r := H
                      have A27 := Aside0.mk A270
                      clear A270
                      by_cases c28 : t250 = t266
                      · rw [if_pos c28] at H
                        have c28b0 : (t250 == t266) = true := beq_iff_eq.mpr c28
                        have c28b1 : (t250 != t266) = false := bne_eq_false_iff_eq.mpr c28
                        clear c28
                        replace H := Option.bind_eq_some_iff.mp H
                        obtain ⟨t267, A290, H⟩ := H
                        replace H : ((civil_Weekday.f a0).bind fun t268 => (if t267 = (Int.tmod (wrap64 (t268 + 1)) 7) then ((computuslaw02_known.f kj4).bind fun t269 => (some t269)) else (some false))) = some r := H
                        have A29 := Aside0.mk A290
                        clear A290
                        replace H := Option.bind_eq_some_iff.mp H
                        obtain ⟨t268, A300, H⟩ := H
                        replace H : (if t267 = (Int.tmod (wrap64 (t268 + 1)) 7) then ((computuslaw02_known.f kj4).bind fun t269 => (some t269)) else (some false)) = some r := H
                        have A30 := Aside0.mk A300
                        clear A300
                        by_cases c31 : t267 = (Int.tmod (wrap64 (t268 + 1)) 7)
                        · rw [if_pos c31] at H
                          have c31b0 : (t267 == (Int.tmod (wrap64 (t268 + 1)) 7)) = true := beq_iff_eq.mpr c31
                          have c31b1 : (t267 != (Int.tmod (wrap64 (t268 + 1)) 7)) = false := bne_eq_false_iff_eq.mpr c31
                          clear c31
                          replace H := Option.bind_eq_some_iff.mp H
                          obtain ⟨t269, A320, H⟩ := H
                          replace H : (some t269) = some r := H
                          have A32 := Aside0.mk A320
                          clear A320
                          obtain rfl := Option.some.inj H
                          go_wp2_with (first | ((with_reducible refine gate_callee (f := 26) rfl ?_); refine goesL_ (some 53) rfl rfl Try.func26 (by kernel_rfl) rfl #[.int .i64 (wrap64 (a0 + 1))] rfl (by (try simp only [List.map_toArray, List.map_cons, List.map_nil]); first | done | rfl | (simp only [List.length_drop, List.length_take]; rfl)) ?_; (with_reducible refine (civil_Date.calls (wrap64 (a0 + 1)) t257 t258 t259 t260 _ A13.out).mono ?_); rintro e w33 ⟨rfl, hb⟩; refine ⟨_, rfl, ?_⟩; have n0_ := Aside0.mk (below_step (by repeat (first | (with_reducible first | exact HB.out | apply below_alloc | apply pw_below_drewN | apply below_drew1) | exact HB.out)) hb); clear HB; have HB := n0_; clear n0_; (try clear hb); (try clear hb2); (try clear hk); (try clear hi)) | (go_at_call 13; (with_reducible refine (civil_Len.calls t248 t249 t266 _ A27.out).mono ?_); rintro e w34 ⟨rfl, hb⟩; have n0_ := Aside0.mk (below_step (by repeat (first | (with_reducible first | exact HB.out | apply below_alloc | apply pw_below_drewN | apply below_drew1) | exact HB.out)) hb); clear HB; have HB := n0_; clear n0_; (try clear hb); (try clear hb2); (try clear hk); (try clear hi)) | (go_at_call 32; (with_reducible refine (civil_Weekday.calls (wrap64 (a0 + 1)) t267 _ A29.out).mono ?_); rintro e w' ⟨rfl, ⟨nd, rfl⟩⟩) | (go_at_call 32; (with_reducible refine (civil_Weekday.calls a0 t268 _ A30.out).mono ?_); rintro e w' ⟨rfl, ⟨nd, rfl⟩⟩) | (go_at_call 21; (with_reducible refine (computuslaw02_known.calls kj4  t269 _ A32.out).mono ?_); rintro e w35 ⟨rfl, hb⟩; have n0_ := Aside0.mk (below_step (by repeat (first | (with_reducible first | exact HB.out | apply below_alloc | apply pw_below_drewN | apply below_drew1) | exact HB.out)) hb); clear HB; have HB := n0_; clear n0_; (try clear hb); (try clear hb2); (try clear hk); (try clear hi)))
                          go_ret
                          exact ⟨by first | rfl | (simp [errW_none, errW_some] <;> rfl) | (simp [*, errW_none, errW_some] <;> rfl), by repeat (first | (with_reducible first | exact HB.out | apply below_alloc | apply pw_below_drewN | apply below_drew1) | exact HB.out)⟩
                        · rw [if_neg c31] at H
                          have c31b0 : (t267 == (Int.tmod (wrap64 (t268 + 1)) 7)) = false := beq_eq_false_iff_ne.mpr c31
                          have c31b1 : (t267 != (Int.tmod (wrap64 (t268 + 1)) 7)) = true := bne_iff_ne.mpr c31
                          obtain rfl := Option.some.inj H
                          go_wp2_with (first | ((with_reducible refine gate_callee (f := 26) rfl ?_); refine goesL_ (some 53) rfl rfl Try.func26 (by kernel_rfl) rfl #[.int .i64 (wrap64 (a0 + 1))] rfl (by (try simp only [List.map_toArray, List.map_cons, List.map_nil]); first | done | rfl | (simp only [List.length_drop, List.length_take]; rfl)) ?_; (with_reducible refine (civil_Date.calls (wrap64 (a0 + 1)) t257 t258 t259 t260 _ A13.out).mono ?_); rintro e w36 ⟨rfl, hb⟩; refine ⟨_, rfl, ?_⟩; have n0_ := Aside0.mk (below_step (by repeat (first | (with_reducible first | exact HB.out | apply below_alloc | apply pw_below_drewN | apply below_drew1) | exact HB.out)) hb); clear HB; have HB := n0_; clear n0_; (try clear hb); (try clear hb2); (try clear hk); (try clear hi)) | (go_at_call 13; (with_reducible refine (civil_Len.calls t248 t249 t266 _ A27.out).mono ?_); rintro e w37 ⟨rfl, hb⟩; have n0_ := Aside0.mk (below_step (by repeat (first | (with_reducible first | exact HB.out | apply below_alloc | apply pw_below_drewN | apply below_drew1) | exact HB.out)) hb); clear HB; have HB := n0_; clear n0_; (try clear hb); (try clear hb2); (try clear hk); (try clear hi)) | (go_at_call 32; (with_reducible refine (civil_Weekday.calls (wrap64 (a0 + 1)) t267 _ A29.out).mono ?_); rintro e w' ⟨rfl, ⟨nd, rfl⟩⟩) | (go_at_call 32; (with_reducible refine (civil_Weekday.calls a0 t268 _ A30.out).mono ?_); rintro e w' ⟨rfl, ⟨nd, rfl⟩⟩))
                          go_ret
                          exact ⟨by first | rfl | (simp [errW_none, errW_some] <;> rfl) | (simp [*, errW_none, errW_some] <;> rfl), by repeat (first | (with_reducible first | exact HB.out | apply below_alloc | apply pw_below_drewN | apply below_drew1) | exact HB.out)⟩
                      · rw [if_neg c28] at H
                        have c28b0 : (t250 == t266) = false := beq_eq_false_iff_ne.mpr c28
                        have c28b1 : (t250 != t266) = true := bne_iff_ne.mpr c28
                        by_cases c38 : t257 = (wrap64 (t248 + 1))
                        · rw [if_pos c38] at H
                          have c38b0 : (t257 == (wrap64 (t248 + 1))) = true := beq_iff_eq.mpr c38
                          have c38b1 : (t257 != (wrap64 (t248 + 1))) = false := bne_eq_false_iff_eq.mpr c38
                          clear c38
                          by_cases c39 : t258 = 1
                          · rw [if_pos c39] at H
                            have c39b0 : (t258 == 1) = true := beq_iff_eq.mpr c39
                            have c39b1 : (t258 != 1) = false := bne_eq_false_iff_eq.mpr c39
                            clear c39
                            by_cases c40 : t249 = 12
                            · rw [if_pos c40] at H
                              have c40b0 : (t249 == 12) = true := beq_iff_eq.mpr c40
                              have c40b1 : (t249 != 12) = false := bne_eq_false_iff_eq.mpr c40
                              clear c40
                              by_cases c41 : t250 = 31
                              · rw [if_pos c41] at H
                                have c41b0 : (t250 == 31) = true := beq_iff_eq.mpr c41
                                have c41b1 : (t250 != 31) = false := bne_eq_false_iff_eq.mpr c41
                                clear c41
                                replace H := Option.bind_eq_some_iff.mp H
                                obtain ⟨t270, A420, H⟩ := H
                                replace H : ((civil_Weekday.f a0).bind fun t271 => (if t270 = (Int.tmod (wrap64 (t271 + 1)) 7) then ((computuslaw02_known.f kj4).bind fun t272 => (some t272)) else (some false))) = some r := H
                                have A42 := Aside0.mk A420
                                clear A420
                                replace H := Option.bind_eq_some_iff.mp H
                                obtain ⟨t271, A430, H⟩ := H
                                replace H : (if t270 = (Int.tmod (wrap64 (t271 + 1)) 7) then ((computuslaw02_known.f kj4).bind fun t272 => (some t272)) else (some false)) = some r := H
                                have A43 := Aside0.mk A430
                                clear A430
                                by_cases c44 : t270 = (Int.tmod (wrap64 (t271 + 1)) 7)
                                · rw [if_pos c44] at H
                                  have c44b0 : (t270 == (Int.tmod (wrap64 (t271 + 1)) 7)) = true := beq_iff_eq.mpr c44
                                  have c44b1 : (t270 != (Int.tmod (wrap64 (t271 + 1)) 7)) = false := bne_eq_false_iff_eq.mpr c44
                                  clear c44
                                  replace H := Option.bind_eq_some_iff.mp H
                                  obtain ⟨t272, A450, H⟩ := H
                                  replace H : (some t272) = some r := H
                                  have A45 := Aside0.mk A450
                                  clear A450
                                  obtain rfl := Option.some.inj H
                                  go_wp2_with (first | ((with_reducible refine gate_callee (f := 26) rfl ?_); refine goesL_ (some 53) rfl rfl Try.func26 (by kernel_rfl) rfl #[.int .i64 (wrap64 (a0 + 1))] rfl (by (try simp only [List.map_toArray, List.map_cons, List.map_nil]); first | done | rfl | (simp only [List.length_drop, List.length_take]; rfl)) ?_; (with_reducible refine (civil_Date.calls (wrap64 (a0 + 1)) t257 t258 t259 t260 _ A13.out).mono ?_); rintro e w46 ⟨rfl, hb⟩; refine ⟨_, rfl, ?_⟩; have n0_ := Aside0.mk (below_step (by repeat (first | (with_reducible first | exact HB.out | apply below_alloc | apply pw_below_drewN | apply below_drew1) | exact HB.out)) hb); clear HB; have HB := n0_; clear n0_; (try clear hb); (try clear hb2); (try clear hk); (try clear hi)) | (go_at_call 13; (with_reducible refine (civil_Len.calls t248 t249 t266 _ A27.out).mono ?_); rintro e w47 ⟨rfl, hb⟩; have n0_ := Aside0.mk (below_step (by repeat (first | (with_reducible first | exact HB.out | apply below_alloc | apply pw_below_drewN | apply below_drew1) | exact HB.out)) hb); clear HB; have HB := n0_; clear n0_; (try clear hb); (try clear hb2); (try clear hk); (try clear hi)) | (go_at_call 32; (with_reducible refine (civil_Weekday.calls (wrap64 (a0 + 1)) t270 _ A42.out).mono ?_); rintro e w' ⟨rfl, ⟨nd, rfl⟩⟩) | (go_at_call 32; (with_reducible refine (civil_Weekday.calls a0 t271 _ A43.out).mono ?_); rintro e w' ⟨rfl, ⟨nd, rfl⟩⟩) | (go_at_call 21; (with_reducible refine (computuslaw02_known.calls kj4  t272 _ A45.out).mono ?_); rintro e w48 ⟨rfl, hb⟩; have n0_ := Aside0.mk (below_step (by repeat (first | (with_reducible first | exact HB.out | apply below_alloc | apply pw_below_drewN | apply below_drew1) | exact HB.out)) hb); clear HB; have HB := n0_; clear n0_; (try clear hb); (try clear hb2); (try clear hk); (try clear hi)))
                                  go_ret
                                  exact ⟨by first | rfl | (simp [errW_none, errW_some] <;> rfl) | (simp [*, errW_none, errW_some] <;> rfl), by repeat (first | (with_reducible first | exact HB.out | apply below_alloc | apply pw_below_drewN | apply below_drew1) | exact HB.out)⟩
                                · rw [if_neg c44] at H
                                  have c44b0 : (t270 == (Int.tmod (wrap64 (t271 + 1)) 7)) = false := beq_eq_false_iff_ne.mpr c44
                                  have c44b1 : (t270 != (Int.tmod (wrap64 (t271 + 1)) 7)) = true := bne_iff_ne.mpr c44
                                  obtain rfl := Option.some.inj H
                                  go_wp2_with (first | ((with_reducible refine gate_callee (f := 26) rfl ?_); refine goesL_ (some 53) rfl rfl Try.func26 (by kernel_rfl) rfl #[.int .i64 (wrap64 (a0 + 1))] rfl (by (try simp only [List.map_toArray, List.map_cons, List.map_nil]); first | done | rfl | (simp only [List.length_drop, List.length_take]; rfl)) ?_; (with_reducible refine (civil_Date.calls (wrap64 (a0 + 1)) t257 t258 t259 t260 _ A13.out).mono ?_); rintro e w49 ⟨rfl, hb⟩; refine ⟨_, rfl, ?_⟩; have n0_ := Aside0.mk (below_step (by repeat (first | (with_reducible first | exact HB.out | apply below_alloc | apply pw_below_drewN | apply below_drew1) | exact HB.out)) hb); clear HB; have HB := n0_; clear n0_; (try clear hb); (try clear hb2); (try clear hk); (try clear hi)) | (go_at_call 13; (with_reducible refine (civil_Len.calls t248 t249 t266 _ A27.out).mono ?_); rintro e w50 ⟨rfl, hb⟩; have n0_ := Aside0.mk (below_step (by repeat (first | (with_reducible first | exact HB.out | apply below_alloc | apply pw_below_drewN | apply below_drew1) | exact HB.out)) hb); clear HB; have HB := n0_; clear n0_; (try clear hb); (try clear hb2); (try clear hk); (try clear hi)) | (go_at_call 32; (with_reducible refine (civil_Weekday.calls (wrap64 (a0 + 1)) t270 _ A42.out).mono ?_); rintro e w' ⟨rfl, ⟨nd, rfl⟩⟩) | (go_at_call 32; (with_reducible refine (civil_Weekday.calls a0 t271 _ A43.out).mono ?_); rintro e w' ⟨rfl, ⟨nd, rfl⟩⟩))
                                  go_ret
                                  exact ⟨by first | rfl | (simp [errW_none, errW_some] <;> rfl) | (simp [*, errW_none, errW_some] <;> rfl), by repeat (first | (with_reducible first | exact HB.out | apply below_alloc | apply pw_below_drewN | apply below_drew1) | exact HB.out)⟩
                              · rw [if_neg c41] at H
                                have c41b0 : (t250 == 31) = false := beq_eq_false_iff_ne.mpr c41
                                have c41b1 : (t250 != 31) = true := bne_iff_ne.mpr c41
                                obtain rfl := Option.some.inj H
                                go_wp2_with (first | ((with_reducible refine gate_callee (f := 26) rfl ?_); refine goesL_ (some 53) rfl rfl Try.func26 (by kernel_rfl) rfl #[.int .i64 (wrap64 (a0 + 1))] rfl (by (try simp only [List.map_toArray, List.map_cons, List.map_nil]); first | done | rfl | (simp only [List.length_drop, List.length_take]; rfl)) ?_; (with_reducible refine (civil_Date.calls (wrap64 (a0 + 1)) t257 t258 t259 t260 _ A13.out).mono ?_); rintro e w51 ⟨rfl, hb⟩; refine ⟨_, rfl, ?_⟩; have n0_ := Aside0.mk (below_step (by repeat (first | (with_reducible first | exact HB.out | apply below_alloc | apply pw_below_drewN | apply below_drew1) | exact HB.out)) hb); clear HB; have HB := n0_; clear n0_; (try clear hb); (try clear hb2); (try clear hk); (try clear hi)) | (go_at_call 13; (with_reducible refine (civil_Len.calls t248 t249 t266 _ A27.out).mono ?_); rintro e w52 ⟨rfl, hb⟩; have n0_ := Aside0.mk (below_step (by repeat (first | (with_reducible first | exact HB.out | apply below_alloc | apply pw_below_drewN | apply below_drew1) | exact HB.out)) hb); clear HB; have HB := n0_; clear n0_; (try clear hb); (try clear hb2); (try clear hk); (try clear hi)))
                                go_ret
                                exact ⟨by first | rfl | (simp [errW_none, errW_some] <;> rfl) | (simp [*, errW_none, errW_some] <;> rfl), by repeat (first | (with_reducible first | exact HB.out | apply below_alloc | apply pw_below_drewN | apply below_drew1) | exact HB.out)⟩
                            · rw [if_neg c40] at H
                              have c40b0 : (t249 == 12) = false := beq_eq_false_iff_ne.mpr c40
                              have c40b1 : (t249 != 12) = true := bne_iff_ne.mpr c40
                              obtain rfl := Option.some.inj H
                              go_wp2_with (first | ((with_reducible refine gate_callee (f := 26) rfl ?_); refine goesL_ (some 53) rfl rfl Try.func26 (by kernel_rfl) rfl #[.int .i64 (wrap64 (a0 + 1))] rfl (by (try simp only [List.map_toArray, List.map_cons, List.map_nil]); first | done | rfl | (simp only [List.length_drop, List.length_take]; rfl)) ?_; (with_reducible refine (civil_Date.calls (wrap64 (a0 + 1)) t257 t258 t259 t260 _ A13.out).mono ?_); rintro e w53 ⟨rfl, hb⟩; refine ⟨_, rfl, ?_⟩; have n0_ := Aside0.mk (below_step (by repeat (first | (with_reducible first | exact HB.out | apply below_alloc | apply pw_below_drewN | apply below_drew1) | exact HB.out)) hb); clear HB; have HB := n0_; clear n0_; (try clear hb); (try clear hb2); (try clear hk); (try clear hi)) | (go_at_call 13; (with_reducible refine (civil_Len.calls t248 t249 t266 _ A27.out).mono ?_); rintro e w54 ⟨rfl, hb⟩; have n0_ := Aside0.mk (below_step (by repeat (first | (with_reducible first | exact HB.out | apply below_alloc | apply pw_below_drewN | apply below_drew1) | exact HB.out)) hb); clear HB; have HB := n0_; clear n0_; (try clear hb); (try clear hb2); (try clear hk); (try clear hi)))
                              go_ret
                              exact ⟨by first | rfl | (simp [errW_none, errW_some] <;> rfl) | (simp [*, errW_none, errW_some] <;> rfl), by repeat (first | (with_reducible first | exact HB.out | apply below_alloc | apply pw_below_drewN | apply below_drew1) | exact HB.out)⟩
                          · rw [if_neg c39] at H
                            have c39b0 : (t258 == 1) = false := beq_eq_false_iff_ne.mpr c39
                            have c39b1 : (t258 != 1) = true := bne_iff_ne.mpr c39
                            obtain rfl := Option.some.inj H
                            go_wp2_with (first | ((with_reducible refine gate_callee (f := 26) rfl ?_); refine goesL_ (some 53) rfl rfl Try.func26 (by kernel_rfl) rfl #[.int .i64 (wrap64 (a0 + 1))] rfl (by (try simp only [List.map_toArray, List.map_cons, List.map_nil]); first | done | rfl | (simp only [List.length_drop, List.length_take]; rfl)) ?_; (with_reducible refine (civil_Date.calls (wrap64 (a0 + 1)) t257 t258 t259 t260 _ A13.out).mono ?_); rintro e w55 ⟨rfl, hb⟩; refine ⟨_, rfl, ?_⟩; have n0_ := Aside0.mk (below_step (by repeat (first | (with_reducible first | exact HB.out | apply below_alloc | apply pw_below_drewN | apply below_drew1) | exact HB.out)) hb); clear HB; have HB := n0_; clear n0_; (try clear hb); (try clear hb2); (try clear hk); (try clear hi)) | (go_at_call 13; (with_reducible refine (civil_Len.calls t248 t249 t266 _ A27.out).mono ?_); rintro e w56 ⟨rfl, hb⟩; have n0_ := Aside0.mk (below_step (by repeat (first | (with_reducible first | exact HB.out | apply below_alloc | apply pw_below_drewN | apply below_drew1) | exact HB.out)) hb); clear HB; have HB := n0_; clear n0_; (try clear hb); (try clear hb2); (try clear hk); (try clear hi)))
                            go_ret
                            exact ⟨by first | rfl | (simp [errW_none, errW_some] <;> rfl) | (simp [*, errW_none, errW_some] <;> rfl), by repeat (first | (with_reducible first | exact HB.out | apply below_alloc | apply pw_below_drewN | apply below_drew1) | exact HB.out)⟩
                        · rw [if_neg c38] at H
                          have c38b0 : (t257 == (wrap64 (t248 + 1))) = false := beq_eq_false_iff_ne.mpr c38
                          have c38b1 : (t257 != (wrap64 (t248 + 1))) = true := bne_iff_ne.mpr c38
                          obtain rfl := Option.some.inj H
                          go_wp2_with (first | ((with_reducible refine gate_callee (f := 26) rfl ?_); refine goesL_ (some 53) rfl rfl Try.func26 (by kernel_rfl) rfl #[.int .i64 (wrap64 (a0 + 1))] rfl (by (try simp only [List.map_toArray, List.map_cons, List.map_nil]); first | done | rfl | (simp only [List.length_drop, List.length_take]; rfl)) ?_; (with_reducible refine (civil_Date.calls (wrap64 (a0 + 1)) t257 t258 t259 t260 _ A13.out).mono ?_); rintro e w57 ⟨rfl, hb⟩; refine ⟨_, rfl, ?_⟩; have n0_ := Aside0.mk (below_step (by repeat (first | (with_reducible first | exact HB.out | apply below_alloc | apply pw_below_drewN | apply below_drew1) | exact HB.out)) hb); clear HB; have HB := n0_; clear n0_; (try clear hb); (try clear hb2); (try clear hk); (try clear hi)) | (go_at_call 13; (with_reducible refine (civil_Len.calls t248 t249 t266 _ A27.out).mono ?_); rintro e w58 ⟨rfl, hb⟩; have n0_ := Aside0.mk (below_step (by repeat (first | (with_reducible first | exact HB.out | apply below_alloc | apply pw_below_drewN | apply below_drew1) | exact HB.out)) hb); clear HB; have HB := n0_; clear n0_; (try clear hb); (try clear hb2); (try clear hk); (try clear hi)))
                          go_ret
                          exact ⟨by first | rfl | (simp [errW_none, errW_some] <;> rfl) | (simp [*, errW_none, errW_some] <;> rfl), by repeat (first | (with_reducible first | exact HB.out | apply below_alloc | apply pw_below_drewN | apply below_drew1) | exact HB.out)⟩
                    · rw [if_neg c26] at H
                      have c26b0 : (t259 == 1) = false := beq_eq_false_iff_ne.mpr c26
                      have c26b1 : (t259 != 1) = true := bne_iff_ne.mpr c26
                      by_cases c59 : t257 = (wrap64 (t248 + 1))
                      · rw [if_pos c59] at H
                        have c59b0 : (t257 == (wrap64 (t248 + 1))) = true := beq_iff_eq.mpr c59
                        have c59b1 : (t257 != (wrap64 (t248 + 1))) = false := bne_eq_false_iff_eq.mpr c59
                        clear c59
                        by_cases c60 : t258 = 1
                        · rw [if_pos c60] at H
                          have c60b0 : (t258 == 1) = true := beq_iff_eq.mpr c60
                          have c60b1 : (t258 != 1) = false := bne_eq_false_iff_eq.mpr c60
                          clear c60
                          obtain rfl := Option.some.inj H
                          go_wp2_with (first | ((with_reducible refine gate_callee (f := 26) rfl ?_); refine goesL_ (some 53) rfl rfl Try.func26 (by kernel_rfl) rfl #[.int .i64 (wrap64 (a0 + 1))] rfl (by (try simp only [List.map_toArray, List.map_cons, List.map_nil]); first | done | rfl | (simp only [List.length_drop, List.length_take]; rfl)) ?_; (with_reducible refine (civil_Date.calls (wrap64 (a0 + 1)) t257 t258 t259 t260 _ A13.out).mono ?_); rintro e w61 ⟨rfl, hb⟩; refine ⟨_, rfl, ?_⟩; have n0_ := Aside0.mk (below_step (by repeat (first | (with_reducible first | exact HB.out | apply below_alloc | apply pw_below_drewN | apply below_drew1) | exact HB.out)) hb); clear HB; have HB := n0_; clear n0_; (try clear hb); (try clear hb2); (try clear hk); (try clear hi)))
                          go_ret
                          exact ⟨by first | rfl | (simp [errW_none, errW_some] <;> rfl) | (simp [*, errW_none, errW_some] <;> rfl), by repeat (first | (with_reducible first | exact HB.out | apply below_alloc | apply pw_below_drewN | apply below_drew1) | exact HB.out)⟩
                        · rw [if_neg c60] at H
                          have c60b0 : (t258 == 1) = false := beq_eq_false_iff_ne.mpr c60
                          have c60b1 : (t258 != 1) = true := bne_iff_ne.mpr c60
                          obtain rfl := Option.some.inj H
                          go_wp2_with (first | ((with_reducible refine gate_callee (f := 26) rfl ?_); refine goesL_ (some 53) rfl rfl Try.func26 (by kernel_rfl) rfl #[.int .i64 (wrap64 (a0 + 1))] rfl (by (try simp only [List.map_toArray, List.map_cons, List.map_nil]); first | done | rfl | (simp only [List.length_drop, List.length_take]; rfl)) ?_; (with_reducible refine (civil_Date.calls (wrap64 (a0 + 1)) t257 t258 t259 t260 _ A13.out).mono ?_); rintro e w62 ⟨rfl, hb⟩; refine ⟨_, rfl, ?_⟩; have n0_ := Aside0.mk (below_step (by repeat (first | (with_reducible first | exact HB.out | apply below_alloc | apply pw_below_drewN | apply below_drew1) | exact HB.out)) hb); clear HB; have HB := n0_; clear n0_; (try clear hb); (try clear hb2); (try clear hk); (try clear hi)))
                          go_ret
                          exact ⟨by first | rfl | (simp [errW_none, errW_some] <;> rfl) | (simp [*, errW_none, errW_some] <;> rfl), by repeat (first | (with_reducible first | exact HB.out | apply below_alloc | apply pw_below_drewN | apply below_drew1) | exact HB.out)⟩
                      · rw [if_neg c59] at H
                        have c59b0 : (t257 == (wrap64 (t248 + 1))) = false := beq_eq_false_iff_ne.mpr c59
                        have c59b1 : (t257 != (wrap64 (t248 + 1))) = true := bne_iff_ne.mpr c59
                        obtain rfl := Option.some.inj H
                        go_wp2_with (first | ((with_reducible refine gate_callee (f := 26) rfl ?_); refine goesL_ (some 53) rfl rfl Try.func26 (by kernel_rfl) rfl #[.int .i64 (wrap64 (a0 + 1))] rfl (by (try simp only [List.map_toArray, List.map_cons, List.map_nil]); first | done | rfl | (simp only [List.length_drop, List.length_take]; rfl)) ?_; (with_reducible refine (civil_Date.calls (wrap64 (a0 + 1)) t257 t258 t259 t260 _ A13.out).mono ?_); rintro e w63 ⟨rfl, hb⟩; refine ⟨_, rfl, ?_⟩; have n0_ := Aside0.mk (below_step (by repeat (first | (with_reducible first | exact HB.out | apply below_alloc | apply pw_below_drewN | apply below_drew1) | exact HB.out)) hb); clear HB; have HB := n0_; clear n0_; (try clear hb); (try clear hb2); (try clear hk); (try clear hi)))
                        go_ret
                        exact ⟨by first | rfl | (simp [errW_none, errW_some] <;> rfl) | (simp [*, errW_none, errW_some] <;> rfl), by repeat (first | (with_reducible first | exact HB.out | apply below_alloc | apply pw_below_drewN | apply below_drew1) | exact HB.out)⟩
                  · rw [if_neg c25] at H
                    have c25b0 : (t258 == (wrap64 (t249 + 1))) = false := beq_eq_false_iff_ne.mpr c25
                    have c25b1 : (t258 != (wrap64 (t249 + 1))) = true := bne_iff_ne.mpr c25
                    by_cases c64 : t257 = (wrap64 (t248 + 1))
                    · rw [if_pos c64] at H
                      have c64b0 : (t257 == (wrap64 (t248 + 1))) = true := beq_iff_eq.mpr c64
                      have c64b1 : (t257 != (wrap64 (t248 + 1))) = false := bne_eq_false_iff_eq.mpr c64
                      clear c64
                      by_cases c65 : t258 = 1
                      · rw [if_pos c65] at H
                        have c65b0 : (t258 == 1) = true := beq_iff_eq.mpr c65
                        have c65b1 : (t258 != 1) = false := bne_eq_false_iff_eq.mpr c65
                        clear c65
                        by_cases c66 : t259 = 1
                        · rw [if_pos c66] at H
                          have c66b0 : (t259 == 1) = true := beq_iff_eq.mpr c66
                          have c66b1 : (t259 != 1) = false := bne_eq_false_iff_eq.mpr c66
                          clear c66
                          by_cases c67 : t249 = 12
                          · rw [if_pos c67] at H
                            have c67b0 : (t249 == 12) = true := beq_iff_eq.mpr c67
                            have c67b1 : (t249 != 12) = false := bne_eq_false_iff_eq.mpr c67
                            clear c67
                            by_cases c68 : t250 = 31
                            · rw [if_pos c68] at H
                              have c68b0 : (t250 == 31) = true := beq_iff_eq.mpr c68
                              have c68b1 : (t250 != 31) = false := bne_eq_false_iff_eq.mpr c68
                              clear c68
                              replace H := Option.bind_eq_some_iff.mp H
                              obtain ⟨t273, A690, H⟩ := H
                              replace H : ((civil_Weekday.f a0).bind fun t274 => (if t273 = (Int.tmod (wrap64 (t274 + 1)) 7) then ((computuslaw02_known.f kj4).bind fun t275 => (some t275)) else (some false))) = some r := H
                              have A69 := Aside0.mk A690
                              clear A690
                              replace H := Option.bind_eq_some_iff.mp H
                              obtain ⟨t274, A700, H⟩ := H
                              replace H : (if t273 = (Int.tmod (wrap64 (t274 + 1)) 7) then ((computuslaw02_known.f kj4).bind fun t275 => (some t275)) else (some false)) = some r := H
                              have A70 := Aside0.mk A700
                              clear A700
                              by_cases c71 : t273 = (Int.tmod (wrap64 (t274 + 1)) 7)
                              · rw [if_pos c71] at H
                                have c71b0 : (t273 == (Int.tmod (wrap64 (t274 + 1)) 7)) = true := beq_iff_eq.mpr c71
                                have c71b1 : (t273 != (Int.tmod (wrap64 (t274 + 1)) 7)) = false := bne_eq_false_iff_eq.mpr c71
                                clear c71
                                replace H := Option.bind_eq_some_iff.mp H
                                obtain ⟨t275, A720, H⟩ := H
                                replace H : (some t275) = some r := H
                                have A72 := Aside0.mk A720
                                clear A720
                                obtain rfl := Option.some.inj H
                                go_wp2_with (first | ((with_reducible refine gate_callee (f := 26) rfl ?_); refine goesL_ (some 53) rfl rfl Try.func26 (by kernel_rfl) rfl #[.int .i64 (wrap64 (a0 + 1))] rfl (by (try simp only [List.map_toArray, List.map_cons, List.map_nil]); first | done | rfl | (simp only [List.length_drop, List.length_take]; rfl)) ?_; (with_reducible refine (civil_Date.calls (wrap64 (a0 + 1)) t257 t258 t259 t260 _ A13.out).mono ?_); rintro e w73 ⟨rfl, hb⟩; refine ⟨_, rfl, ?_⟩; have n0_ := Aside0.mk (below_step (by repeat (first | (with_reducible first | exact HB.out | apply below_alloc | apply pw_below_drewN | apply below_drew1) | exact HB.out)) hb); clear HB; have HB := n0_; clear n0_; (try clear hb); (try clear hb2); (try clear hk); (try clear hi)) | (go_at_call 32; (with_reducible refine (civil_Weekday.calls (wrap64 (a0 + 1)) t273 _ A69.out).mono ?_); rintro e w' ⟨rfl, ⟨nd, rfl⟩⟩) | (go_at_call 32; (with_reducible refine (civil_Weekday.calls a0 t274 _ A70.out).mono ?_); rintro e w' ⟨rfl, ⟨nd, rfl⟩⟩) | (go_at_call 21; (with_reducible refine (computuslaw02_known.calls kj4  t275 _ A72.out).mono ?_); rintro e w74 ⟨rfl, hb⟩; have n0_ := Aside0.mk (below_step (by repeat (first | (with_reducible first | exact HB.out | apply below_alloc | apply pw_below_drewN | apply below_drew1) | exact HB.out)) hb); clear HB; have HB := n0_; clear n0_; (try clear hb); (try clear hb2); (try clear hk); (try clear hi)))
                                go_ret
                                exact ⟨by first | rfl | (simp [errW_none, errW_some] <;> rfl) | (simp [*, errW_none, errW_some] <;> rfl), by repeat (first | (with_reducible first | exact HB.out | apply below_alloc | apply pw_below_drewN | apply below_drew1) | exact HB.out)⟩
                              · rw [if_neg c71] at H
                                have c71b0 : (t273 == (Int.tmod (wrap64 (t274 + 1)) 7)) = false := beq_eq_false_iff_ne.mpr c71
                                have c71b1 : (t273 != (Int.tmod (wrap64 (t274 + 1)) 7)) = true := bne_iff_ne.mpr c71
                                obtain rfl := Option.some.inj H
                                go_wp2_with (first | ((with_reducible refine gate_callee (f := 26) rfl ?_); refine goesL_ (some 53) rfl rfl Try.func26 (by kernel_rfl) rfl #[.int .i64 (wrap64 (a0 + 1))] rfl (by (try simp only [List.map_toArray, List.map_cons, List.map_nil]); first | done | rfl | (simp only [List.length_drop, List.length_take]; rfl)) ?_; (with_reducible refine (civil_Date.calls (wrap64 (a0 + 1)) t257 t258 t259 t260 _ A13.out).mono ?_); rintro e w75 ⟨rfl, hb⟩; refine ⟨_, rfl, ?_⟩; have n0_ := Aside0.mk (below_step (by repeat (first | (with_reducible first | exact HB.out | apply below_alloc | apply pw_below_drewN | apply below_drew1) | exact HB.out)) hb); clear HB; have HB := n0_; clear n0_; (try clear hb); (try clear hb2); (try clear hk); (try clear hi)) | (go_at_call 32; (with_reducible refine (civil_Weekday.calls (wrap64 (a0 + 1)) t273 _ A69.out).mono ?_); rintro e w' ⟨rfl, ⟨nd, rfl⟩⟩) | (go_at_call 32; (with_reducible refine (civil_Weekday.calls a0 t274 _ A70.out).mono ?_); rintro e w' ⟨rfl, ⟨nd, rfl⟩⟩))
                                go_ret
                                exact ⟨by first | rfl | (simp [errW_none, errW_some] <;> rfl) | (simp [*, errW_none, errW_some] <;> rfl), by repeat (first | (with_reducible first | exact HB.out | apply below_alloc | apply pw_below_drewN | apply below_drew1) | exact HB.out)⟩
                            · rw [if_neg c68] at H
                              have c68b0 : (t250 == 31) = false := beq_eq_false_iff_ne.mpr c68
                              have c68b1 : (t250 != 31) = true := bne_iff_ne.mpr c68
                              obtain rfl := Option.some.inj H
                              go_wp2_with (first | ((with_reducible refine gate_callee (f := 26) rfl ?_); refine goesL_ (some 53) rfl rfl Try.func26 (by kernel_rfl) rfl #[.int .i64 (wrap64 (a0 + 1))] rfl (by (try simp only [List.map_toArray, List.map_cons, List.map_nil]); first | done | rfl | (simp only [List.length_drop, List.length_take]; rfl)) ?_; (with_reducible refine (civil_Date.calls (wrap64 (a0 + 1)) t257 t258 t259 t260 _ A13.out).mono ?_); rintro e w76 ⟨rfl, hb⟩; refine ⟨_, rfl, ?_⟩; have n0_ := Aside0.mk (below_step (by repeat (first | (with_reducible first | exact HB.out | apply below_alloc | apply pw_below_drewN | apply below_drew1) | exact HB.out)) hb); clear HB; have HB := n0_; clear n0_; (try clear hb); (try clear hb2); (try clear hk); (try clear hi)))
                              go_ret
                              exact ⟨by first | rfl | (simp [errW_none, errW_some] <;> rfl) | (simp [*, errW_none, errW_some] <;> rfl), by repeat (first | (with_reducible first | exact HB.out | apply below_alloc | apply pw_below_drewN | apply below_drew1) | exact HB.out)⟩
                          · rw [if_neg c67] at H
                            have c67b0 : (t249 == 12) = false := beq_eq_false_iff_ne.mpr c67
                            have c67b1 : (t249 != 12) = true := bne_iff_ne.mpr c67
                            obtain rfl := Option.some.inj H
                            go_wp2_with (first | ((with_reducible refine gate_callee (f := 26) rfl ?_); refine goesL_ (some 53) rfl rfl Try.func26 (by kernel_rfl) rfl #[.int .i64 (wrap64 (a0 + 1))] rfl (by (try simp only [List.map_toArray, List.map_cons, List.map_nil]); first | done | rfl | (simp only [List.length_drop, List.length_take]; rfl)) ?_; (with_reducible refine (civil_Date.calls (wrap64 (a0 + 1)) t257 t258 t259 t260 _ A13.out).mono ?_); rintro e w77 ⟨rfl, hb⟩; refine ⟨_, rfl, ?_⟩; have n0_ := Aside0.mk (below_step (by repeat (first | (with_reducible first | exact HB.out | apply below_alloc | apply pw_below_drewN | apply below_drew1) | exact HB.out)) hb); clear HB; have HB := n0_; clear n0_; (try clear hb); (try clear hb2); (try clear hk); (try clear hi)))
                            go_ret
                            exact ⟨by first | rfl | (simp [errW_none, errW_some] <;> rfl) | (simp [*, errW_none, errW_some] <;> rfl), by repeat (first | (with_reducible first | exact HB.out | apply below_alloc | apply pw_below_drewN | apply below_drew1) | exact HB.out)⟩
                        · rw [if_neg c66] at H
                          have c66b0 : (t259 == 1) = false := beq_eq_false_iff_ne.mpr c66
                          have c66b1 : (t259 != 1) = true := bne_iff_ne.mpr c66
                          obtain rfl := Option.some.inj H
                          go_wp2_with (first | ((with_reducible refine gate_callee (f := 26) rfl ?_); refine goesL_ (some 53) rfl rfl Try.func26 (by kernel_rfl) rfl #[.int .i64 (wrap64 (a0 + 1))] rfl (by (try simp only [List.map_toArray, List.map_cons, List.map_nil]); first | done | rfl | (simp only [List.length_drop, List.length_take]; rfl)) ?_; (with_reducible refine (civil_Date.calls (wrap64 (a0 + 1)) t257 t258 t259 t260 _ A13.out).mono ?_); rintro e w78 ⟨rfl, hb⟩; refine ⟨_, rfl, ?_⟩; have n0_ := Aside0.mk (below_step (by repeat (first | (with_reducible first | exact HB.out | apply below_alloc | apply pw_below_drewN | apply below_drew1) | exact HB.out)) hb); clear HB; have HB := n0_; clear n0_; (try clear hb); (try clear hb2); (try clear hk); (try clear hi)))
                          go_ret
                          exact ⟨by first | rfl | (simp [errW_none, errW_some] <;> rfl) | (simp [*, errW_none, errW_some] <;> rfl), by repeat (first | (with_reducible first | exact HB.out | apply below_alloc | apply pw_below_drewN | apply below_drew1) | exact HB.out)⟩
                      · rw [if_neg c65] at H
                        have c65b0 : (t258 == 1) = false := beq_eq_false_iff_ne.mpr c65
                        have c65b1 : (t258 != 1) = true := bne_iff_ne.mpr c65
                        obtain rfl := Option.some.inj H
                        go_wp2_with (first | ((with_reducible refine gate_callee (f := 26) rfl ?_); refine goesL_ (some 53) rfl rfl Try.func26 (by kernel_rfl) rfl #[.int .i64 (wrap64 (a0 + 1))] rfl (by (try simp only [List.map_toArray, List.map_cons, List.map_nil]); first | done | rfl | (simp only [List.length_drop, List.length_take]; rfl)) ?_; (with_reducible refine (civil_Date.calls (wrap64 (a0 + 1)) t257 t258 t259 t260 _ A13.out).mono ?_); rintro e w79 ⟨rfl, hb⟩; refine ⟨_, rfl, ?_⟩; have n0_ := Aside0.mk (below_step (by repeat (first | (with_reducible first | exact HB.out | apply below_alloc | apply pw_below_drewN | apply below_drew1) | exact HB.out)) hb); clear HB; have HB := n0_; clear n0_; (try clear hb); (try clear hb2); (try clear hk); (try clear hi)))
                        go_ret
                        exact ⟨by first | rfl | (simp [errW_none, errW_some] <;> rfl) | (simp [*, errW_none, errW_some] <;> rfl), by repeat (first | (with_reducible first | exact HB.out | apply below_alloc | apply pw_below_drewN | apply below_drew1) | exact HB.out)⟩
                    · rw [if_neg c64] at H
                      have c64b0 : (t257 == (wrap64 (t248 + 1))) = false := beq_eq_false_iff_ne.mpr c64
                      have c64b1 : (t257 != (wrap64 (t248 + 1))) = true := bne_iff_ne.mpr c64
                      obtain rfl := Option.some.inj H
                      go_wp2_with (first | ((with_reducible refine gate_callee (f := 26) rfl ?_); refine goesL_ (some 53) rfl rfl Try.func26 (by kernel_rfl) rfl #[.int .i64 (wrap64 (a0 + 1))] rfl (by (try simp only [List.map_toArray, List.map_cons, List.map_nil]); first | done | rfl | (simp only [List.length_drop, List.length_take]; rfl)) ?_; (with_reducible refine (civil_Date.calls (wrap64 (a0 + 1)) t257 t258 t259 t260 _ A13.out).mono ?_); rintro e w80 ⟨rfl, hb⟩; refine ⟨_, rfl, ?_⟩; have n0_ := Aside0.mk (below_step (by repeat (first | (with_reducible first | exact HB.out | apply below_alloc | apply pw_below_drewN | apply below_drew1) | exact HB.out)) hb); clear HB; have HB := n0_; clear n0_; (try clear hb); (try clear hb2); (try clear hk); (try clear hi)))
                      go_ret
                      exact ⟨by first | rfl | (simp [errW_none, errW_some] <;> rfl) | (simp [*, errW_none, errW_some] <;> rfl), by repeat (first | (with_reducible first | exact HB.out | apply below_alloc | apply pw_below_drewN | apply below_drew1) | exact HB.out)⟩
              · rw [if_neg c16] at H
                have c16b0 : (t258 == t249) = false := beq_eq_false_iff_ne.mpr c16
                have c16b1 : (t258 != t249) = true := bne_iff_ne.mpr c16
                by_cases c81 : t258 = (wrap64 (t249 + 1))
                · rw [if_pos c81] at H
                  have c81b0 : (t258 == (wrap64 (t249 + 1))) = true := beq_iff_eq.mpr c81
                  have c81b1 : (t258 != (wrap64 (t249 + 1))) = false := bne_eq_false_iff_eq.mpr c81
                  clear c81
                  by_cases c82 : t259 = 1
                  · rw [if_pos c82] at H
                    have c82b0 : (t259 == 1) = true := beq_iff_eq.mpr c82
                    have c82b1 : (t259 != 1) = false := bne_eq_false_iff_eq.mpr c82
                    clear c82
                    replace H := Option.bind_eq_some_iff.mp H
                    obtain ⟨t276, A830, H⟩ := H
                    replace H : (if t250 = t276 then ((civil_Weekday.f (wrap64 (a0 + 1))).bind fun t277 => ((civil_Weekday.f a0).bind fun t278 => (if t277 = (Int.tmod (wrap64 (t278 + 1)) 7) then ((computuslaw02_known.f kj4).bind fun t279 => (some t279)) else (some false)))) else (if t257 = (wrap64 (t248 + 1)) then (if t258 = 1 then (if t249 = 12 then (if t250 = 31 then ((civil_Weekday.f (wrap64 (a0 + 1))).bind fun t280 => ((civil_Weekday.f a0).bind fun t281 => (if t280 = (Int.tmod (wrap64 (t281 + 1)) 7) then ((computuslaw02_known.f kj4).bind fun t282 => (some t282)) else (some false)))) else (some false)) else (some false)) else (some false)) else (some false))) = some r := H
                    have A83 := Aside0.mk A830
                    clear A830
                    by_cases c84 : t250 = t276
                    · rw [if_pos c84] at H
                      have c84b0 : (t250 == t276) = true := beq_iff_eq.mpr c84
                      have c84b1 : (t250 != t276) = false := bne_eq_false_iff_eq.mpr c84
                      clear c84
                      replace H := Option.bind_eq_some_iff.mp H
                      obtain ⟨t277, A850, H⟩ := H
                      replace H : ((civil_Weekday.f a0).bind fun t278 => (if t277 = (Int.tmod (wrap64 (t278 + 1)) 7) then ((computuslaw02_known.f kj4).bind fun t279 => (some t279)) else (some false))) = some r := H
                      have A85 := Aside0.mk A850
                      clear A850
                      replace H := Option.bind_eq_some_iff.mp H
                      obtain ⟨t278, A860, H⟩ := H
                      replace H : (if t277 = (Int.tmod (wrap64 (t278 + 1)) 7) then ((computuslaw02_known.f kj4).bind fun t279 => (some t279)) else (some false)) = some r := H
                      have A86 := Aside0.mk A860
                      clear A860
                      by_cases c87 : t277 = (Int.tmod (wrap64 (t278 + 1)) 7)
                      · rw [if_pos c87] at H
                        have c87b0 : (t277 == (Int.tmod (wrap64 (t278 + 1)) 7)) = true := beq_iff_eq.mpr c87
                        have c87b1 : (t277 != (Int.tmod (wrap64 (t278 + 1)) 7)) = false := bne_eq_false_iff_eq.mpr c87
                        clear c87
                        replace H := Option.bind_eq_some_iff.mp H
                        obtain ⟨t279, A880, H⟩ := H
                        replace H : (some t279) = some r := H
                        have A88 := Aside0.mk A880
                        clear A880
                        obtain rfl := Option.some.inj H
                        go_wp2_with (first | ((with_reducible refine gate_callee (f := 26) rfl ?_); refine goesL_ (some 53) rfl rfl Try.func26 (by kernel_rfl) rfl #[.int .i64 (wrap64 (a0 + 1))] rfl (by (try simp only [List.map_toArray, List.map_cons, List.map_nil]); first | done | rfl | (simp only [List.length_drop, List.length_take]; rfl)) ?_; (with_reducible refine (civil_Date.calls (wrap64 (a0 + 1)) t257 t258 t259 t260 _ A13.out).mono ?_); rintro e w89 ⟨rfl, hb⟩; refine ⟨_, rfl, ?_⟩; have n0_ := Aside0.mk (below_step (by repeat (first | (with_reducible first | exact HB.out | apply below_alloc | apply pw_below_drewN | apply below_drew1) | exact HB.out)) hb); clear HB; have HB := n0_; clear n0_; (try clear hb); (try clear hb2); (try clear hk); (try clear hi)) | (go_at_call 13; (with_reducible refine (civil_Len.calls t248 t249 t276 _ A83.out).mono ?_); rintro e w90 ⟨rfl, hb⟩; have n0_ := Aside0.mk (below_step (by repeat (first | (with_reducible first | exact HB.out | apply below_alloc | apply pw_below_drewN | apply below_drew1) | exact HB.out)) hb); clear HB; have HB := n0_; clear n0_; (try clear hb); (try clear hb2); (try clear hk); (try clear hi)) | (go_at_call 32; (with_reducible refine (civil_Weekday.calls (wrap64 (a0 + 1)) t277 _ A85.out).mono ?_); rintro e w' ⟨rfl, ⟨nd, rfl⟩⟩) | (go_at_call 32; (with_reducible refine (civil_Weekday.calls a0 t278 _ A86.out).mono ?_); rintro e w' ⟨rfl, ⟨nd, rfl⟩⟩) | (go_at_call 21; (with_reducible refine (computuslaw02_known.calls kj4  t279 _ A88.out).mono ?_); rintro e w91 ⟨rfl, hb⟩; have n0_ := Aside0.mk (below_step (by repeat (first | (with_reducible first | exact HB.out | apply below_alloc | apply pw_below_drewN | apply below_drew1) | exact HB.out)) hb); clear HB; have HB := n0_; clear n0_; (try clear hb); (try clear hb2); (try clear hk); (try clear hi)))
                        go_ret
                        exact ⟨by first | rfl | (simp [errW_none, errW_some] <;> rfl) | (simp [*, errW_none, errW_some] <;> rfl), by repeat (first | (with_reducible first | exact HB.out | apply below_alloc | apply pw_below_drewN | apply below_drew1) | exact HB.out)⟩
                      · rw [if_neg c87] at H
                        have c87b0 : (t277 == (Int.tmod (wrap64 (t278 + 1)) 7)) = false := beq_eq_false_iff_ne.mpr c87
                        have c87b1 : (t277 != (Int.tmod (wrap64 (t278 + 1)) 7)) = true := bne_iff_ne.mpr c87
                        obtain rfl := Option.some.inj H
                        go_wp2_with (first | ((with_reducible refine gate_callee (f := 26) rfl ?_); refine goesL_ (some 53) rfl rfl Try.func26 (by kernel_rfl) rfl #[.int .i64 (wrap64 (a0 + 1))] rfl (by (try simp only [List.map_toArray, List.map_cons, List.map_nil]); first | done | rfl | (simp only [List.length_drop, List.length_take]; rfl)) ?_; (with_reducible refine (civil_Date.calls (wrap64 (a0 + 1)) t257 t258 t259 t260 _ A13.out).mono ?_); rintro e w92 ⟨rfl, hb⟩; refine ⟨_, rfl, ?_⟩; have n0_ := Aside0.mk (below_step (by repeat (first | (with_reducible first | exact HB.out | apply below_alloc | apply pw_below_drewN | apply below_drew1) | exact HB.out)) hb); clear HB; have HB := n0_; clear n0_; (try clear hb); (try clear hb2); (try clear hk); (try clear hi)) | (go_at_call 13; (with_reducible refine (civil_Len.calls t248 t249 t276 _ A83.out).mono ?_); rintro e w93 ⟨rfl, hb⟩; have n0_ := Aside0.mk (below_step (by repeat (first | (with_reducible first | exact HB.out | apply below_alloc | apply pw_below_drewN | apply below_drew1) | exact HB.out)) hb); clear HB; have HB := n0_; clear n0_; (try clear hb); (try clear hb2); (try clear hk); (try clear hi)) | (go_at_call 32; (with_reducible refine (civil_Weekday.calls (wrap64 (a0 + 1)) t277 _ A85.out).mono ?_); rintro e w' ⟨rfl, ⟨nd, rfl⟩⟩) | (go_at_call 32; (with_reducible refine (civil_Weekday.calls a0 t278 _ A86.out).mono ?_); rintro e w' ⟨rfl, ⟨nd, rfl⟩⟩))
                        go_ret
                        exact ⟨by first | rfl | (simp [errW_none, errW_some] <;> rfl) | (simp [*, errW_none, errW_some] <;> rfl), by repeat (first | (with_reducible first | exact HB.out | apply below_alloc | apply pw_below_drewN | apply below_drew1) | exact HB.out)⟩
                    · rw [if_neg c84] at H
                      have c84b0 : (t250 == t276) = false := beq_eq_false_iff_ne.mpr c84
                      have c84b1 : (t250 != t276) = true := bne_iff_ne.mpr c84
                      by_cases c94 : t257 = (wrap64 (t248 + 1))
                      · rw [if_pos c94] at H
                        have c94b0 : (t257 == (wrap64 (t248 + 1))) = true := beq_iff_eq.mpr c94
                        have c94b1 : (t257 != (wrap64 (t248 + 1))) = false := bne_eq_false_iff_eq.mpr c94
                        clear c94
                        by_cases c95 : t258 = 1
                        · rw [if_pos c95] at H
                          have c95b0 : (t258 == 1) = true := beq_iff_eq.mpr c95
                          have c95b1 : (t258 != 1) = false := bne_eq_false_iff_eq.mpr c95
                          clear c95
                          by_cases c96 : t249 = 12
                          · rw [if_pos c96] at H
                            have c96b0 : (t249 == 12) = true := beq_iff_eq.mpr c96
                            have c96b1 : (t249 != 12) = false := bne_eq_false_iff_eq.mpr c96
                            clear c96
                            by_cases c97 : t250 = 31
                            · rw [if_pos c97] at H
                              have c97b0 : (t250 == 31) = true := beq_iff_eq.mpr c97
                              have c97b1 : (t250 != 31) = false := bne_eq_false_iff_eq.mpr c97
                              clear c97
                              replace H := Option.bind_eq_some_iff.mp H
                              obtain ⟨t280, A980, H⟩ := H
                              replace H : ((civil_Weekday.f a0).bind fun t281 => (if t280 = (Int.tmod (wrap64 (t281 + 1)) 7) then ((computuslaw02_known.f kj4).bind fun t282 => (some t282)) else (some false))) = some r := H
                              have A98 := Aside0.mk A980
                              clear A980
                              replace H := Option.bind_eq_some_iff.mp H
                              obtain ⟨t281, A990, H⟩ := H
                              replace H : (if t280 = (Int.tmod (wrap64 (t281 + 1)) 7) then ((computuslaw02_known.f kj4).bind fun t282 => (some t282)) else (some false)) = some r := H
                              have A99 := Aside0.mk A990
                              clear A990
                              by_cases c100 : t280 = (Int.tmod (wrap64 (t281 + 1)) 7)
                              · rw [if_pos c100] at H
                                have c100b0 : (t280 == (Int.tmod (wrap64 (t281 + 1)) 7)) = true := beq_iff_eq.mpr c100
                                have c100b1 : (t280 != (Int.tmod (wrap64 (t281 + 1)) 7)) = false := bne_eq_false_iff_eq.mpr c100
                                clear c100
                                replace H := Option.bind_eq_some_iff.mp H
                                obtain ⟨t282, A1010, H⟩ := H
                                replace H : (some t282) = some r := H
                                have A101 := Aside0.mk A1010
                                clear A1010
                                obtain rfl := Option.some.inj H
                                go_wp2_with (first | ((with_reducible refine gate_callee (f := 26) rfl ?_); refine goesL_ (some 53) rfl rfl Try.func26 (by kernel_rfl) rfl #[.int .i64 (wrap64 (a0 + 1))] rfl (by (try simp only [List.map_toArray, List.map_cons, List.map_nil]); first | done | rfl | (simp only [List.length_drop, List.length_take]; rfl)) ?_; (with_reducible refine (civil_Date.calls (wrap64 (a0 + 1)) t257 t258 t259 t260 _ A13.out).mono ?_); rintro e w102 ⟨rfl, hb⟩; refine ⟨_, rfl, ?_⟩; have n0_ := Aside0.mk (below_step (by repeat (first | (with_reducible first | exact HB.out | apply below_alloc | apply pw_below_drewN | apply below_drew1) | exact HB.out)) hb); clear HB; have HB := n0_; clear n0_; (try clear hb); (try clear hb2); (try clear hk); (try clear hi)) | (go_at_call 13; (with_reducible refine (civil_Len.calls t248 t249 t276 _ A83.out).mono ?_); rintro e w103 ⟨rfl, hb⟩; have n0_ := Aside0.mk (below_step (by repeat (first | (with_reducible first | exact HB.out | apply below_alloc | apply pw_below_drewN | apply below_drew1) | exact HB.out)) hb); clear HB; have HB := n0_; clear n0_; (try clear hb); (try clear hb2); (try clear hk); (try clear hi)) | (go_at_call 32; (with_reducible refine (civil_Weekday.calls (wrap64 (a0 + 1)) t280 _ A98.out).mono ?_); rintro e w' ⟨rfl, ⟨nd, rfl⟩⟩) | (go_at_call 32; (with_reducible refine (civil_Weekday.calls a0 t281 _ A99.out).mono ?_); rintro e w' ⟨rfl, ⟨nd, rfl⟩⟩) | (go_at_call 21; (with_reducible refine (computuslaw02_known.calls kj4  t282 _ A101.out).mono ?_); rintro e w104 ⟨rfl, hb⟩; have n0_ := Aside0.mk (below_step (by repeat (first | (with_reducible first | exact HB.out | apply below_alloc | apply pw_below_drewN | apply below_drew1) | exact HB.out)) hb); clear HB; have HB := n0_; clear n0_; (try clear hb); (try clear hb2); (try clear hk); (try clear hi)))
                                go_ret
                                exact ⟨by first | rfl | (simp [errW_none, errW_some] <;> rfl) | (simp [*, errW_none, errW_some] <;> rfl), by repeat (first | (with_reducible first | exact HB.out | apply below_alloc | apply pw_below_drewN | apply below_drew1) | exact HB.out)⟩
                              · rw [if_neg c100] at H
                                have c100b0 : (t280 == (Int.tmod (wrap64 (t281 + 1)) 7)) = false := beq_eq_false_iff_ne.mpr c100
                                have c100b1 : (t280 != (Int.tmod (wrap64 (t281 + 1)) 7)) = true := bne_iff_ne.mpr c100
                                obtain rfl := Option.some.inj H
                                go_wp2_with (first | ((with_reducible refine gate_callee (f := 26) rfl ?_); refine goesL_ (some 53) rfl rfl Try.func26 (by kernel_rfl) rfl #[.int .i64 (wrap64 (a0 + 1))] rfl (by (try simp only [List.map_toArray, List.map_cons, List.map_nil]); first | done | rfl | (simp only [List.length_drop, List.length_take]; rfl)) ?_; (with_reducible refine (civil_Date.calls (wrap64 (a0 + 1)) t257 t258 t259 t260 _ A13.out).mono ?_); rintro e w105 ⟨rfl, hb⟩; refine ⟨_, rfl, ?_⟩; have n0_ := Aside0.mk (below_step (by repeat (first | (with_reducible first | exact HB.out | apply below_alloc | apply pw_below_drewN | apply below_drew1) | exact HB.out)) hb); clear HB; have HB := n0_; clear n0_; (try clear hb); (try clear hb2); (try clear hk); (try clear hi)) | (go_at_call 13; (with_reducible refine (civil_Len.calls t248 t249 t276 _ A83.out).mono ?_); rintro e w106 ⟨rfl, hb⟩; have n0_ := Aside0.mk (below_step (by repeat (first | (with_reducible first | exact HB.out | apply below_alloc | apply pw_below_drewN | apply below_drew1) | exact HB.out)) hb); clear HB; have HB := n0_; clear n0_; (try clear hb); (try clear hb2); (try clear hk); (try clear hi)) | (go_at_call 32; (with_reducible refine (civil_Weekday.calls (wrap64 (a0 + 1)) t280 _ A98.out).mono ?_); rintro e w' ⟨rfl, ⟨nd, rfl⟩⟩) | (go_at_call 32; (with_reducible refine (civil_Weekday.calls a0 t281 _ A99.out).mono ?_); rintro e w' ⟨rfl, ⟨nd, rfl⟩⟩))
                                go_ret
                                exact ⟨by first | rfl | (simp [errW_none, errW_some] <;> rfl) | (simp [*, errW_none, errW_some] <;> rfl), by repeat (first | (with_reducible first | exact HB.out | apply below_alloc | apply pw_below_drewN | apply below_drew1) | exact HB.out)⟩
                            · rw [if_neg c97] at H
                              have c97b0 : (t250 == 31) = false := beq_eq_false_iff_ne.mpr c97
                              have c97b1 : (t250 != 31) = true := bne_iff_ne.mpr c97
                              obtain rfl := Option.some.inj H
                              go_wp2_with (first | ((with_reducible refine gate_callee (f := 26) rfl ?_); refine goesL_ (some 53) rfl rfl Try.func26 (by kernel_rfl) rfl #[.int .i64 (wrap64 (a0 + 1))] rfl (by (try simp only [List.map_toArray, List.map_cons, List.map_nil]); first | done | rfl | (simp only [List.length_drop, List.length_take]; rfl)) ?_; (with_reducible refine (civil_Date.calls (wrap64 (a0 + 1)) t257 t258 t259 t260 _ A13.out).mono ?_); rintro e w107 ⟨rfl, hb⟩; refine ⟨_, rfl, ?_⟩; have n0_ := Aside0.mk (below_step (by repeat (first | (with_reducible first | exact HB.out | apply below_alloc | apply pw_below_drewN | apply below_drew1) | exact HB.out)) hb); clear HB; have HB := n0_; clear n0_; (try clear hb); (try clear hb2); (try clear hk); (try clear hi)) | (go_at_call 13; (with_reducible refine (civil_Len.calls t248 t249 t276 _ A83.out).mono ?_); rintro e w108 ⟨rfl, hb⟩; have n0_ := Aside0.mk (below_step (by repeat (first | (with_reducible first | exact HB.out | apply below_alloc | apply pw_below_drewN | apply below_drew1) | exact HB.out)) hb); clear HB; have HB := n0_; clear n0_; (try clear hb); (try clear hb2); (try clear hk); (try clear hi)))
                              go_ret
                              exact ⟨by first | rfl | (simp [errW_none, errW_some] <;> rfl) | (simp [*, errW_none, errW_some] <;> rfl), by repeat (first | (with_reducible first | exact HB.out | apply below_alloc | apply pw_below_drewN | apply below_drew1) | exact HB.out)⟩
                          · rw [if_neg c96] at H
                            have c96b0 : (t249 == 12) = false := beq_eq_false_iff_ne.mpr c96
                            have c96b1 : (t249 != 12) = true := bne_iff_ne.mpr c96
                            obtain rfl := Option.some.inj H
                            go_wp2_with (first | ((with_reducible refine gate_callee (f := 26) rfl ?_); refine goesL_ (some 53) rfl rfl Try.func26 (by kernel_rfl) rfl #[.int .i64 (wrap64 (a0 + 1))] rfl (by (try simp only [List.map_toArray, List.map_cons, List.map_nil]); first | done | rfl | (simp only [List.length_drop, List.length_take]; rfl)) ?_; (with_reducible refine (civil_Date.calls (wrap64 (a0 + 1)) t257 t258 t259 t260 _ A13.out).mono ?_); rintro e w109 ⟨rfl, hb⟩; refine ⟨_, rfl, ?_⟩; have n0_ := Aside0.mk (below_step (by repeat (first | (with_reducible first | exact HB.out | apply below_alloc | apply pw_below_drewN | apply below_drew1) | exact HB.out)) hb); clear HB; have HB := n0_; clear n0_; (try clear hb); (try clear hb2); (try clear hk); (try clear hi)) | (go_at_call 13; (with_reducible refine (civil_Len.calls t248 t249 t276 _ A83.out).mono ?_); rintro e w110 ⟨rfl, hb⟩; have n0_ := Aside0.mk (below_step (by repeat (first | (with_reducible first | exact HB.out | apply below_alloc | apply pw_below_drewN | apply below_drew1) | exact HB.out)) hb); clear HB; have HB := n0_; clear n0_; (try clear hb); (try clear hb2); (try clear hk); (try clear hi)))
                            go_ret
                            exact ⟨by first | rfl | (simp [errW_none, errW_some] <;> rfl) | (simp [*, errW_none, errW_some] <;> rfl), by repeat (first | (with_reducible first | exact HB.out | apply below_alloc | apply pw_below_drewN | apply below_drew1) | exact HB.out)⟩
                        · rw [if_neg c95] at H
                          have c95b0 : (t258 == 1) = false := beq_eq_false_iff_ne.mpr c95
                          have c95b1 : (t258 != 1) = true := bne_iff_ne.mpr c95
                          obtain rfl := Option.some.inj H
                          go_wp2_with (first | ((with_reducible refine gate_callee (f := 26) rfl ?_); refine goesL_ (some 53) rfl rfl Try.func26 (by kernel_rfl) rfl #[.int .i64 (wrap64 (a0 + 1))] rfl (by (try simp only [List.map_toArray, List.map_cons, List.map_nil]); first | done | rfl | (simp only [List.length_drop, List.length_take]; rfl)) ?_; (with_reducible refine (civil_Date.calls (wrap64 (a0 + 1)) t257 t258 t259 t260 _ A13.out).mono ?_); rintro e w111 ⟨rfl, hb⟩; refine ⟨_, rfl, ?_⟩; have n0_ := Aside0.mk (below_step (by repeat (first | (with_reducible first | exact HB.out | apply below_alloc | apply pw_below_drewN | apply below_drew1) | exact HB.out)) hb); clear HB; have HB := n0_; clear n0_; (try clear hb); (try clear hb2); (try clear hk); (try clear hi)) | (go_at_call 13; (with_reducible refine (civil_Len.calls t248 t249 t276 _ A83.out).mono ?_); rintro e w112 ⟨rfl, hb⟩; have n0_ := Aside0.mk (below_step (by repeat (first | (with_reducible first | exact HB.out | apply below_alloc | apply pw_below_drewN | apply below_drew1) | exact HB.out)) hb); clear HB; have HB := n0_; clear n0_; (try clear hb); (try clear hb2); (try clear hk); (try clear hi)))
                          go_ret
                          exact ⟨by first | rfl | (simp [errW_none, errW_some] <;> rfl) | (simp [*, errW_none, errW_some] <;> rfl), by repeat (first | (with_reducible first | exact HB.out | apply below_alloc | apply pw_below_drewN | apply below_drew1) | exact HB.out)⟩
                      · rw [if_neg c94] at H
                        have c94b0 : (t257 == (wrap64 (t248 + 1))) = false := beq_eq_false_iff_ne.mpr c94
                        have c94b1 : (t257 != (wrap64 (t248 + 1))) = true := bne_iff_ne.mpr c94
                        obtain rfl := Option.some.inj H
                        go_wp2_with (first | ((with_reducible refine gate_callee (f := 26) rfl ?_); refine goesL_ (some 53) rfl rfl Try.func26 (by kernel_rfl) rfl #[.int .i64 (wrap64 (a0 + 1))] rfl (by (try simp only [List.map_toArray, List.map_cons, List.map_nil]); first | done | rfl | (simp only [List.length_drop, List.length_take]; rfl)) ?_; (with_reducible refine (civil_Date.calls (wrap64 (a0 + 1)) t257 t258 t259 t260 _ A13.out).mono ?_); rintro e w113 ⟨rfl, hb⟩; refine ⟨_, rfl, ?_⟩; have n0_ := Aside0.mk (below_step (by repeat (first | (with_reducible first | exact HB.out | apply below_alloc | apply pw_below_drewN | apply below_drew1) | exact HB.out)) hb); clear HB; have HB := n0_; clear n0_; (try clear hb); (try clear hb2); (try clear hk); (try clear hi)) | (go_at_call 13; (with_reducible refine (civil_Len.calls t248 t249 t276 _ A83.out).mono ?_); rintro e w114 ⟨rfl, hb⟩; have n0_ := Aside0.mk (below_step (by repeat (first | (with_reducible first | exact HB.out | apply below_alloc | apply pw_below_drewN | apply below_drew1) | exact HB.out)) hb); clear HB; have HB := n0_; clear n0_; (try clear hb); (try clear hb2); (try clear hk); (try clear hi)))
                        go_ret
                        exact ⟨by first | rfl | (simp [errW_none, errW_some] <;> rfl) | (simp [*, errW_none, errW_some] <;> rfl), by repeat (first | (with_reducible first | exact HB.out | apply below_alloc | apply pw_below_drewN | apply below_drew1) | exact HB.out)⟩
                  · rw [if_neg c82] at H
                    have c82b0 : (t259 == 1) = false := beq_eq_false_iff_ne.mpr c82
                    have c82b1 : (t259 != 1) = true := bne_iff_ne.mpr c82
                    by_cases c115 : t257 = (wrap64 (t248 + 1))
                    · rw [if_pos c115] at H
                      have c115b0 : (t257 == (wrap64 (t248 + 1))) = true := beq_iff_eq.mpr c115
                      have c115b1 : (t257 != (wrap64 (t248 + 1))) = false := bne_eq_false_iff_eq.mpr c115
                      clear c115
                      by_cases c116 : t258 = 1
                      · rw [if_pos c116] at H
                        have c116b0 : (t258 == 1) = true := beq_iff_eq.mpr c116
                        have c116b1 : (t258 != 1) = false := bne_eq_false_iff_eq.mpr c116
                        clear c116
                        obtain rfl := Option.some.inj H
                        go_wp2_with (first | ((with_reducible refine gate_callee (f := 26) rfl ?_); refine goesL_ (some 53) rfl rfl Try.func26 (by kernel_rfl) rfl #[.int .i64 (wrap64 (a0 + 1))] rfl (by (try simp only [List.map_toArray, List.map_cons, List.map_nil]); first | done | rfl | (simp only [List.length_drop, List.length_take]; rfl)) ?_; (with_reducible refine (civil_Date.calls (wrap64 (a0 + 1)) t257 t258 t259 t260 _ A13.out).mono ?_); rintro e w117 ⟨rfl, hb⟩; refine ⟨_, rfl, ?_⟩; have n0_ := Aside0.mk (below_step (by repeat (first | (with_reducible first | exact HB.out | apply below_alloc | apply pw_below_drewN | apply below_drew1) | exact HB.out)) hb); clear HB; have HB := n0_; clear n0_; (try clear hb); (try clear hb2); (try clear hk); (try clear hi)))
                        go_ret
                        exact ⟨by first | rfl | (simp [errW_none, errW_some] <;> rfl) | (simp [*, errW_none, errW_some] <;> rfl), by repeat (first | (with_reducible first | exact HB.out | apply below_alloc | apply pw_below_drewN | apply below_drew1) | exact HB.out)⟩
                      · rw [if_neg c116] at H
                        have c116b0 : (t258 == 1) = false := beq_eq_false_iff_ne.mpr c116
                        have c116b1 : (t258 != 1) = true := bne_iff_ne.mpr c116
                        obtain rfl := Option.some.inj H
                        go_wp2_with (first | ((with_reducible refine gate_callee (f := 26) rfl ?_); refine goesL_ (some 53) rfl rfl Try.func26 (by kernel_rfl) rfl #[.int .i64 (wrap64 (a0 + 1))] rfl (by (try simp only [List.map_toArray, List.map_cons, List.map_nil]); first | done | rfl | (simp only [List.length_drop, List.length_take]; rfl)) ?_; (with_reducible refine (civil_Date.calls (wrap64 (a0 + 1)) t257 t258 t259 t260 _ A13.out).mono ?_); rintro e w118 ⟨rfl, hb⟩; refine ⟨_, rfl, ?_⟩; have n0_ := Aside0.mk (below_step (by repeat (first | (with_reducible first | exact HB.out | apply below_alloc | apply pw_below_drewN | apply below_drew1) | exact HB.out)) hb); clear HB; have HB := n0_; clear n0_; (try clear hb); (try clear hb2); (try clear hk); (try clear hi)))
                        go_ret
                        exact ⟨by first | rfl | (simp [errW_none, errW_some] <;> rfl) | (simp [*, errW_none, errW_some] <;> rfl), by repeat (first | (with_reducible first | exact HB.out | apply below_alloc | apply pw_below_drewN | apply below_drew1) | exact HB.out)⟩
                    · rw [if_neg c115] at H
                      have c115b0 : (t257 == (wrap64 (t248 + 1))) = false := beq_eq_false_iff_ne.mpr c115
                      have c115b1 : (t257 != (wrap64 (t248 + 1))) = true := bne_iff_ne.mpr c115
                      obtain rfl := Option.some.inj H
                      go_wp2_with (first | ((with_reducible refine gate_callee (f := 26) rfl ?_); refine goesL_ (some 53) rfl rfl Try.func26 (by kernel_rfl) rfl #[.int .i64 (wrap64 (a0 + 1))] rfl (by (try simp only [List.map_toArray, List.map_cons, List.map_nil]); first | done | rfl | (simp only [List.length_drop, List.length_take]; rfl)) ?_; (with_reducible refine (civil_Date.calls (wrap64 (a0 + 1)) t257 t258 t259 t260 _ A13.out).mono ?_); rintro e w119 ⟨rfl, hb⟩; refine ⟨_, rfl, ?_⟩; have n0_ := Aside0.mk (below_step (by repeat (first | (with_reducible first | exact HB.out | apply below_alloc | apply pw_below_drewN | apply below_drew1) | exact HB.out)) hb); clear HB; have HB := n0_; clear n0_; (try clear hb); (try clear hb2); (try clear hk); (try clear hi)))
                      go_ret
                      exact ⟨by first | rfl | (simp [errW_none, errW_some] <;> rfl) | (simp [*, errW_none, errW_some] <;> rfl), by repeat (first | (with_reducible first | exact HB.out | apply below_alloc | apply pw_below_drewN | apply below_drew1) | exact HB.out)⟩
                · rw [if_neg c81] at H
                  have c81b0 : (t258 == (wrap64 (t249 + 1))) = false := beq_eq_false_iff_ne.mpr c81
                  have c81b1 : (t258 != (wrap64 (t249 + 1))) = true := bne_iff_ne.mpr c81
                  by_cases c120 : t257 = (wrap64 (t248 + 1))
                  · rw [if_pos c120] at H
                    have c120b0 : (t257 == (wrap64 (t248 + 1))) = true := beq_iff_eq.mpr c120
                    have c120b1 : (t257 != (wrap64 (t248 + 1))) = false := bne_eq_false_iff_eq.mpr c120
                    clear c120
                    by_cases c121 : t258 = 1
                    · rw [if_pos c121] at H
                      have c121b0 : (t258 == 1) = true := beq_iff_eq.mpr c121
                      have c121b1 : (t258 != 1) = false := bne_eq_false_iff_eq.mpr c121
                      clear c121
                      by_cases c122 : t259 = 1
                      · rw [if_pos c122] at H
                        have c122b0 : (t259 == 1) = true := beq_iff_eq.mpr c122
                        have c122b1 : (t259 != 1) = false := bne_eq_false_iff_eq.mpr c122
                        clear c122
                        by_cases c123 : t249 = 12
                        · rw [if_pos c123] at H
                          have c123b0 : (t249 == 12) = true := beq_iff_eq.mpr c123
                          have c123b1 : (t249 != 12) = false := bne_eq_false_iff_eq.mpr c123
                          clear c123
                          by_cases c124 : t250 = 31
                          · rw [if_pos c124] at H
                            have c124b0 : (t250 == 31) = true := beq_iff_eq.mpr c124
                            have c124b1 : (t250 != 31) = false := bne_eq_false_iff_eq.mpr c124
                            clear c124
                            replace H := Option.bind_eq_some_iff.mp H
                            obtain ⟨t283, A1250, H⟩ := H
                            replace H : ((civil_Weekday.f a0).bind fun t284 => (if t283 = (Int.tmod (wrap64 (t284 + 1)) 7) then ((computuslaw02_known.f kj4).bind fun t285 => (some t285)) else (some false))) = some r := H
                            have A125 := Aside0.mk A1250
                            clear A1250
                            replace H := Option.bind_eq_some_iff.mp H
                            obtain ⟨t284, A1260, H⟩ := H
                            replace H : (if t283 = (Int.tmod (wrap64 (t284 + 1)) 7) then ((computuslaw02_known.f kj4).bind fun t285 => (some t285)) else (some false)) = some r := H
                            have A126 := Aside0.mk A1260
                            clear A1260
                            by_cases c127 : t283 = (Int.tmod (wrap64 (t284 + 1)) 7)
                            · rw [if_pos c127] at H
                              have c127b0 : (t283 == (Int.tmod (wrap64 (t284 + 1)) 7)) = true := beq_iff_eq.mpr c127
                              have c127b1 : (t283 != (Int.tmod (wrap64 (t284 + 1)) 7)) = false := bne_eq_false_iff_eq.mpr c127
                              clear c127
                              replace H := Option.bind_eq_some_iff.mp H
                              obtain ⟨t285, A1280, H⟩ := H
                              replace H : (some t285) = some r := H
                              have A128 := Aside0.mk A1280
                              clear A1280
                              obtain rfl := Option.some.inj H
                              go_wp2_with (first | ((with_reducible refine gate_callee (f := 26) rfl ?_); refine goesL_ (some 53) rfl rfl Try.func26 (by kernel_rfl) rfl #[.int .i64 (wrap64 (a0 + 1))] rfl (by (try simp only [List.map_toArray, List.map_cons, List.map_nil]); first | done | rfl | (simp only [List.length_drop, List.length_take]; rfl)) ?_; (with_reducible refine (civil_Date.calls (wrap64 (a0 + 1)) t257 t258 t259 t260 _ A13.out).mono ?_); rintro e w129 ⟨rfl, hb⟩; refine ⟨_, rfl, ?_⟩; have n0_ := Aside0.mk (below_step (by repeat (first | (with_reducible first | exact HB.out | apply below_alloc | apply pw_below_drewN | apply below_drew1) | exact HB.out)) hb); clear HB; have HB := n0_; clear n0_; (try clear hb); (try clear hb2); (try clear hk); (try clear hi)) | (go_at_call 32; (with_reducible refine (civil_Weekday.calls (wrap64 (a0 + 1)) t283 _ A125.out).mono ?_); rintro e w' ⟨rfl, ⟨nd, rfl⟩⟩) | (go_at_call 32; (with_reducible refine (civil_Weekday.calls a0 t284 _ A126.out).mono ?_); rintro e w' ⟨rfl, ⟨nd, rfl⟩⟩) | (go_at_call 21; (with_reducible refine (computuslaw02_known.calls kj4  t285 _ A128.out).mono ?_); rintro e w130 ⟨rfl, hb⟩; have n0_ := Aside0.mk (below_step (by repeat (first | (with_reducible first | exact HB.out | apply below_alloc | apply pw_below_drewN | apply below_drew1) | exact HB.out)) hb); clear HB; have HB := n0_; clear n0_; (try clear hb); (try clear hb2); (try clear hk); (try clear hi)))
                              go_ret
                              exact ⟨by first | rfl | (simp [errW_none, errW_some] <;> rfl) | (simp [*, errW_none, errW_some] <;> rfl), by repeat (first | (with_reducible first | exact HB.out | apply below_alloc | apply pw_below_drewN | apply below_drew1) | exact HB.out)⟩
                            · rw [if_neg c127] at H
                              have c127b0 : (t283 == (Int.tmod (wrap64 (t284 + 1)) 7)) = false := beq_eq_false_iff_ne.mpr c127
                              have c127b1 : (t283 != (Int.tmod (wrap64 (t284 + 1)) 7)) = true := bne_iff_ne.mpr c127
                              obtain rfl := Option.some.inj H
                              go_wp2_with (first | ((with_reducible refine gate_callee (f := 26) rfl ?_); refine goesL_ (some 53) rfl rfl Try.func26 (by kernel_rfl) rfl #[.int .i64 (wrap64 (a0 + 1))] rfl (by (try simp only [List.map_toArray, List.map_cons, List.map_nil]); first | done | rfl | (simp only [List.length_drop, List.length_take]; rfl)) ?_; (with_reducible refine (civil_Date.calls (wrap64 (a0 + 1)) t257 t258 t259 t260 _ A13.out).mono ?_); rintro e w131 ⟨rfl, hb⟩; refine ⟨_, rfl, ?_⟩; have n0_ := Aside0.mk (below_step (by repeat (first | (with_reducible first | exact HB.out | apply below_alloc | apply pw_below_drewN | apply below_drew1) | exact HB.out)) hb); clear HB; have HB := n0_; clear n0_; (try clear hb); (try clear hb2); (try clear hk); (try clear hi)) | (go_at_call 32; (with_reducible refine (civil_Weekday.calls (wrap64 (a0 + 1)) t283 _ A125.out).mono ?_); rintro e w' ⟨rfl, ⟨nd, rfl⟩⟩) | (go_at_call 32; (with_reducible refine (civil_Weekday.calls a0 t284 _ A126.out).mono ?_); rintro e w' ⟨rfl, ⟨nd, rfl⟩⟩))
                              go_ret
                              exact ⟨by first | rfl | (simp [errW_none, errW_some] <;> rfl) | (simp [*, errW_none, errW_some] <;> rfl), by repeat (first | (with_reducible first | exact HB.out | apply below_alloc | apply pw_below_drewN | apply below_drew1) | exact HB.out)⟩
                          · rw [if_neg c124] at H
                            have c124b0 : (t250 == 31) = false := beq_eq_false_iff_ne.mpr c124
                            have c124b1 : (t250 != 31) = true := bne_iff_ne.mpr c124
                            obtain rfl := Option.some.inj H
                            go_wp2_with (first | ((with_reducible refine gate_callee (f := 26) rfl ?_); refine goesL_ (some 53) rfl rfl Try.func26 (by kernel_rfl) rfl #[.int .i64 (wrap64 (a0 + 1))] rfl (by (try simp only [List.map_toArray, List.map_cons, List.map_nil]); first | done | rfl | (simp only [List.length_drop, List.length_take]; rfl)) ?_; (with_reducible refine (civil_Date.calls (wrap64 (a0 + 1)) t257 t258 t259 t260 _ A13.out).mono ?_); rintro e w132 ⟨rfl, hb⟩; refine ⟨_, rfl, ?_⟩; have n0_ := Aside0.mk (below_step (by repeat (first | (with_reducible first | exact HB.out | apply below_alloc | apply pw_below_drewN | apply below_drew1) | exact HB.out)) hb); clear HB; have HB := n0_; clear n0_; (try clear hb); (try clear hb2); (try clear hk); (try clear hi)))
                            go_ret
                            exact ⟨by first | rfl | (simp [errW_none, errW_some] <;> rfl) | (simp [*, errW_none, errW_some] <;> rfl), by repeat (first | (with_reducible first | exact HB.out | apply below_alloc | apply pw_below_drewN | apply below_drew1) | exact HB.out)⟩
                        · rw [if_neg c123] at H
                          have c123b0 : (t249 == 12) = false := beq_eq_false_iff_ne.mpr c123
                          have c123b1 : (t249 != 12) = true := bne_iff_ne.mpr c123
                          obtain rfl := Option.some.inj H
                          go_wp2_with (first | ((with_reducible refine gate_callee (f := 26) rfl ?_); refine goesL_ (some 53) rfl rfl Try.func26 (by kernel_rfl) rfl #[.int .i64 (wrap64 (a0 + 1))] rfl (by (try simp only [List.map_toArray, List.map_cons, List.map_nil]); first | done | rfl | (simp only [List.length_drop, List.length_take]; rfl)) ?_; (with_reducible refine (civil_Date.calls (wrap64 (a0 + 1)) t257 t258 t259 t260 _ A13.out).mono ?_); rintro e w133 ⟨rfl, hb⟩; refine ⟨_, rfl, ?_⟩; have n0_ := Aside0.mk (below_step (by repeat (first | (with_reducible first | exact HB.out | apply below_alloc | apply pw_below_drewN | apply below_drew1) | exact HB.out)) hb); clear HB; have HB := n0_; clear n0_; (try clear hb); (try clear hb2); (try clear hk); (try clear hi)))
                          go_ret
                          exact ⟨by first | rfl | (simp [errW_none, errW_some] <;> rfl) | (simp [*, errW_none, errW_some] <;> rfl), by repeat (first | (with_reducible first | exact HB.out | apply below_alloc | apply pw_below_drewN | apply below_drew1) | exact HB.out)⟩
                      · rw [if_neg c122] at H
                        have c122b0 : (t259 == 1) = false := beq_eq_false_iff_ne.mpr c122
                        have c122b1 : (t259 != 1) = true := bne_iff_ne.mpr c122
                        obtain rfl := Option.some.inj H
                        go_wp2_with (first | ((with_reducible refine gate_callee (f := 26) rfl ?_); refine goesL_ (some 53) rfl rfl Try.func26 (by kernel_rfl) rfl #[.int .i64 (wrap64 (a0 + 1))] rfl (by (try simp only [List.map_toArray, List.map_cons, List.map_nil]); first | done | rfl | (simp only [List.length_drop, List.length_take]; rfl)) ?_; (with_reducible refine (civil_Date.calls (wrap64 (a0 + 1)) t257 t258 t259 t260 _ A13.out).mono ?_); rintro e w134 ⟨rfl, hb⟩; refine ⟨_, rfl, ?_⟩; have n0_ := Aside0.mk (below_step (by repeat (first | (with_reducible first | exact HB.out | apply below_alloc | apply pw_below_drewN | apply below_drew1) | exact HB.out)) hb); clear HB; have HB := n0_; clear n0_; (try clear hb); (try clear hb2); (try clear hk); (try clear hi)))
                        go_ret
                        exact ⟨by first | rfl | (simp [errW_none, errW_some] <;> rfl) | (simp [*, errW_none, errW_some] <;> rfl), by repeat (first | (with_reducible first | exact HB.out | apply below_alloc | apply pw_below_drewN | apply below_drew1) | exact HB.out)⟩
                    · rw [if_neg c121] at H
                      have c121b0 : (t258 == 1) = false := beq_eq_false_iff_ne.mpr c121
                      have c121b1 : (t258 != 1) = true := bne_iff_ne.mpr c121
                      obtain rfl := Option.some.inj H
                      go_wp2_with (first | ((with_reducible refine gate_callee (f := 26) rfl ?_); refine goesL_ (some 53) rfl rfl Try.func26 (by kernel_rfl) rfl #[.int .i64 (wrap64 (a0 + 1))] rfl (by (try simp only [List.map_toArray, List.map_cons, List.map_nil]); first | done | rfl | (simp only [List.length_drop, List.length_take]; rfl)) ?_; (with_reducible refine (civil_Date.calls (wrap64 (a0 + 1)) t257 t258 t259 t260 _ A13.out).mono ?_); rintro e w135 ⟨rfl, hb⟩; refine ⟨_, rfl, ?_⟩; have n0_ := Aside0.mk (below_step (by repeat (first | (with_reducible first | exact HB.out | apply below_alloc | apply pw_below_drewN | apply below_drew1) | exact HB.out)) hb); clear HB; have HB := n0_; clear n0_; (try clear hb); (try clear hb2); (try clear hk); (try clear hi)))
                      go_ret
                      exact ⟨by first | rfl | (simp [errW_none, errW_some] <;> rfl) | (simp [*, errW_none, errW_some] <;> rfl), by repeat (first | (with_reducible first | exact HB.out | apply below_alloc | apply pw_below_drewN | apply below_drew1) | exact HB.out)⟩
                  · rw [if_neg c120] at H
                    have c120b0 : (t257 == (wrap64 (t248 + 1))) = false := beq_eq_false_iff_ne.mpr c120
                    have c120b1 : (t257 != (wrap64 (t248 + 1))) = true := bne_iff_ne.mpr c120
                    obtain rfl := Option.some.inj H
                    go_wp2_with (first | ((with_reducible refine gate_callee (f := 26) rfl ?_); refine goesL_ (some 53) rfl rfl Try.func26 (by kernel_rfl) rfl #[.int .i64 (wrap64 (a0 + 1))] rfl (by (try simp only [List.map_toArray, List.map_cons, List.map_nil]); first | done | rfl | (simp only [List.length_drop, List.length_take]; rfl)) ?_; (with_reducible refine (civil_Date.calls (wrap64 (a0 + 1)) t257 t258 t259 t260 _ A13.out).mono ?_); rintro e w136 ⟨rfl, hb⟩; refine ⟨_, rfl, ?_⟩; have n0_ := Aside0.mk (below_step (by repeat (first | (with_reducible first | exact HB.out | apply below_alloc | apply pw_below_drewN | apply below_drew1) | exact HB.out)) hb); clear HB; have HB := n0_; clear n0_; (try clear hb); (try clear hb2); (try clear hk); (try clear hi)))
                    go_ret
                    exact ⟨by first | rfl | (simp [errW_none, errW_some] <;> rfl) | (simp [*, errW_none, errW_some] <;> rfl), by repeat (first | (with_reducible first | exact HB.out | apply below_alloc | apply pw_below_drewN | apply below_drew1) | exact HB.out)⟩
            · rw [if_neg c15] at H
              have c15b0 : (t257 == t248) = false := beq_eq_false_iff_ne.mpr c15
              have c15b1 : (t257 != t248) = true := bne_iff_ne.mpr c15
              by_cases c137 : t257 = (wrap64 (t248 + 1))
              · rw [if_pos c137] at H
                have c137b0 : (t257 == (wrap64 (t248 + 1))) = true := beq_iff_eq.mpr c137
                have c137b1 : (t257 != (wrap64 (t248 + 1))) = false := bne_eq_false_iff_eq.mpr c137
                clear c137
                by_cases c138 : t258 = 1
                · rw [if_pos c138] at H
                  have c138b0 : (t258 == 1) = true := beq_iff_eq.mpr c138
                  have c138b1 : (t258 != 1) = false := bne_eq_false_iff_eq.mpr c138
                  clear c138
                  by_cases c139 : t259 = 1
                  · rw [if_pos c139] at H
                    have c139b0 : (t259 == 1) = true := beq_iff_eq.mpr c139
                    have c139b1 : (t259 != 1) = false := bne_eq_false_iff_eq.mpr c139
                    clear c139
                    by_cases c140 : t249 = 12
                    · rw [if_pos c140] at H
                      have c140b0 : (t249 == 12) = true := beq_iff_eq.mpr c140
                      have c140b1 : (t249 != 12) = false := bne_eq_false_iff_eq.mpr c140
                      clear c140
                      by_cases c141 : t250 = 31
                      · rw [if_pos c141] at H
                        have c141b0 : (t250 == 31) = true := beq_iff_eq.mpr c141
                        have c141b1 : (t250 != 31) = false := bne_eq_false_iff_eq.mpr c141
                        clear c141
                        replace H := Option.bind_eq_some_iff.mp H
                        obtain ⟨t286, A1420, H⟩ := H
                        replace H : ((civil_Weekday.f a0).bind fun t287 => (if t286 = (Int.tmod (wrap64 (t287 + 1)) 7) then ((computuslaw02_known.f kj4).bind fun t288 => (some t288)) else (some false))) = some r := H
                        have A142 := Aside0.mk A1420
                        clear A1420
                        replace H := Option.bind_eq_some_iff.mp H
                        obtain ⟨t287, A1430, H⟩ := H
                        replace H : (if t286 = (Int.tmod (wrap64 (t287 + 1)) 7) then ((computuslaw02_known.f kj4).bind fun t288 => (some t288)) else (some false)) = some r := H
                        have A143 := Aside0.mk A1430
                        clear A1430
                        by_cases c144 : t286 = (Int.tmod (wrap64 (t287 + 1)) 7)
                        · rw [if_pos c144] at H
                          have c144b0 : (t286 == (Int.tmod (wrap64 (t287 + 1)) 7)) = true := beq_iff_eq.mpr c144
                          have c144b1 : (t286 != (Int.tmod (wrap64 (t287 + 1)) 7)) = false := bne_eq_false_iff_eq.mpr c144
                          clear c144
                          replace H := Option.bind_eq_some_iff.mp H
                          obtain ⟨t288, A1450, H⟩ := H
                          replace H : (some t288) = some r := H
                          have A145 := Aside0.mk A1450
                          clear A1450
                          obtain rfl := Option.some.inj H
                          go_wp2_with (first | ((with_reducible refine gate_callee (f := 26) rfl ?_); refine goesL_ (some 53) rfl rfl Try.func26 (by kernel_rfl) rfl #[.int .i64 (wrap64 (a0 + 1))] rfl (by (try simp only [List.map_toArray, List.map_cons, List.map_nil]); first | done | rfl | (simp only [List.length_drop, List.length_take]; rfl)) ?_; (with_reducible refine (civil_Date.calls (wrap64 (a0 + 1)) t257 t258 t259 t260 _ A13.out).mono ?_); rintro e w146 ⟨rfl, hb⟩; refine ⟨_, rfl, ?_⟩; have n0_ := Aside0.mk (below_step (by repeat (first | (with_reducible first | exact HB.out | apply below_alloc | apply pw_below_drewN | apply below_drew1) | exact HB.out)) hb); clear HB; have HB := n0_; clear n0_; (try clear hb); (try clear hb2); (try clear hk); (try clear hi)) | (go_at_call 32; (with_reducible refine (civil_Weekday.calls (wrap64 (a0 + 1)) t286 _ A142.out).mono ?_); rintro e w' ⟨rfl, ⟨nd, rfl⟩⟩) | (go_at_call 32; (with_reducible refine (civil_Weekday.calls a0 t287 _ A143.out).mono ?_); rintro e w' ⟨rfl, ⟨nd, rfl⟩⟩) | (go_at_call 21; (with_reducible refine (computuslaw02_known.calls kj4  t288 _ A145.out).mono ?_); rintro e w147 ⟨rfl, hb⟩; have n0_ := Aside0.mk (below_step (by repeat (first | (with_reducible first | exact HB.out | apply below_alloc | apply pw_below_drewN | apply below_drew1) | exact HB.out)) hb); clear HB; have HB := n0_; clear n0_; (try clear hb); (try clear hb2); (try clear hk); (try clear hi)))
                          go_ret
                          exact ⟨by first | rfl | (simp [errW_none, errW_some] <;> rfl) | (simp [*, errW_none, errW_some] <;> rfl), by repeat (first | (with_reducible first | exact HB.out | apply below_alloc | apply pw_below_drewN | apply below_drew1) | exact HB.out)⟩
                        · rw [if_neg c144] at H
                          have c144b0 : (t286 == (Int.tmod (wrap64 (t287 + 1)) 7)) = false := beq_eq_false_iff_ne.mpr c144
                          have c144b1 : (t286 != (Int.tmod (wrap64 (t287 + 1)) 7)) = true := bne_iff_ne.mpr c144
                          obtain rfl := Option.some.inj H
                          go_wp2_with (first | ((with_reducible refine gate_callee (f := 26) rfl ?_); refine goesL_ (some 53) rfl rfl Try.func26 (by kernel_rfl) rfl #[.int .i64 (wrap64 (a0 + 1))] rfl (by (try simp only [List.map_toArray, List.map_cons, List.map_nil]); first | done | rfl | (simp only [List.length_drop, List.length_take]; rfl)) ?_; (with_reducible refine (civil_Date.calls (wrap64 (a0 + 1)) t257 t258 t259 t260 _ A13.out).mono ?_); rintro e w148 ⟨rfl, hb⟩; refine ⟨_, rfl, ?_⟩; have n0_ := Aside0.mk (below_step (by repeat (first | (with_reducible first | exact HB.out | apply below_alloc | apply pw_below_drewN | apply below_drew1) | exact HB.out)) hb); clear HB; have HB := n0_; clear n0_; (try clear hb); (try clear hb2); (try clear hk); (try clear hi)) | (go_at_call 32; (with_reducible refine (civil_Weekday.calls (wrap64 (a0 + 1)) t286 _ A142.out).mono ?_); rintro e w' ⟨rfl, ⟨nd, rfl⟩⟩) | (go_at_call 32; (with_reducible refine (civil_Weekday.calls a0 t287 _ A143.out).mono ?_); rintro e w' ⟨rfl, ⟨nd, rfl⟩⟩))
                          go_ret
                          exact ⟨by first | rfl | (simp [errW_none, errW_some] <;> rfl) | (simp [*, errW_none, errW_some] <;> rfl), by repeat (first | (with_reducible first | exact HB.out | apply below_alloc | apply pw_below_drewN | apply below_drew1) | exact HB.out)⟩
                      · rw [if_neg c141] at H
                        have c141b0 : (t250 == 31) = false := beq_eq_false_iff_ne.mpr c141
                        have c141b1 : (t250 != 31) = true := bne_iff_ne.mpr c141
                        obtain rfl := Option.some.inj H
                        go_wp2_with (first | ((with_reducible refine gate_callee (f := 26) rfl ?_); refine goesL_ (some 53) rfl rfl Try.func26 (by kernel_rfl) rfl #[.int .i64 (wrap64 (a0 + 1))] rfl (by (try simp only [List.map_toArray, List.map_cons, List.map_nil]); first | done | rfl | (simp only [List.length_drop, List.length_take]; rfl)) ?_; (with_reducible refine (civil_Date.calls (wrap64 (a0 + 1)) t257 t258 t259 t260 _ A13.out).mono ?_); rintro e w149 ⟨rfl, hb⟩; refine ⟨_, rfl, ?_⟩; have n0_ := Aside0.mk (below_step (by repeat (first | (with_reducible first | exact HB.out | apply below_alloc | apply pw_below_drewN | apply below_drew1) | exact HB.out)) hb); clear HB; have HB := n0_; clear n0_; (try clear hb); (try clear hb2); (try clear hk); (try clear hi)))
                        go_ret
                        exact ⟨by first | rfl | (simp [errW_none, errW_some] <;> rfl) | (simp [*, errW_none, errW_some] <;> rfl), by repeat (first | (with_reducible first | exact HB.out | apply below_alloc | apply pw_below_drewN | apply below_drew1) | exact HB.out)⟩
                    · rw [if_neg c140] at H
                      have c140b0 : (t249 == 12) = false := beq_eq_false_iff_ne.mpr c140
                      have c140b1 : (t249 != 12) = true := bne_iff_ne.mpr c140
                      obtain rfl := Option.some.inj H
                      go_wp2_with (first | ((with_reducible refine gate_callee (f := 26) rfl ?_); refine goesL_ (some 53) rfl rfl Try.func26 (by kernel_rfl) rfl #[.int .i64 (wrap64 (a0 + 1))] rfl (by (try simp only [List.map_toArray, List.map_cons, List.map_nil]); first | done | rfl | (simp only [List.length_drop, List.length_take]; rfl)) ?_; (with_reducible refine (civil_Date.calls (wrap64 (a0 + 1)) t257 t258 t259 t260 _ A13.out).mono ?_); rintro e w150 ⟨rfl, hb⟩; refine ⟨_, rfl, ?_⟩; have n0_ := Aside0.mk (below_step (by repeat (first | (with_reducible first | exact HB.out | apply below_alloc | apply pw_below_drewN | apply below_drew1) | exact HB.out)) hb); clear HB; have HB := n0_; clear n0_; (try clear hb); (try clear hb2); (try clear hk); (try clear hi)))
                      go_ret
                      exact ⟨by first | rfl | (simp [errW_none, errW_some] <;> rfl) | (simp [*, errW_none, errW_some] <;> rfl), by repeat (first | (with_reducible first | exact HB.out | apply below_alloc | apply pw_below_drewN | apply below_drew1) | exact HB.out)⟩
                  · rw [if_neg c139] at H
                    have c139b0 : (t259 == 1) = false := beq_eq_false_iff_ne.mpr c139
                    have c139b1 : (t259 != 1) = true := bne_iff_ne.mpr c139
                    obtain rfl := Option.some.inj H
                    go_wp2_with (first | ((with_reducible refine gate_callee (f := 26) rfl ?_); refine goesL_ (some 53) rfl rfl Try.func26 (by kernel_rfl) rfl #[.int .i64 (wrap64 (a0 + 1))] rfl (by (try simp only [List.map_toArray, List.map_cons, List.map_nil]); first | done | rfl | (simp only [List.length_drop, List.length_take]; rfl)) ?_; (with_reducible refine (civil_Date.calls (wrap64 (a0 + 1)) t257 t258 t259 t260 _ A13.out).mono ?_); rintro e w151 ⟨rfl, hb⟩; refine ⟨_, rfl, ?_⟩; have n0_ := Aside0.mk (below_step (by repeat (first | (with_reducible first | exact HB.out | apply below_alloc | apply pw_below_drewN | apply below_drew1) | exact HB.out)) hb); clear HB; have HB := n0_; clear n0_; (try clear hb); (try clear hb2); (try clear hk); (try clear hi)))
                    go_ret
                    exact ⟨by first | rfl | (simp [errW_none, errW_some] <;> rfl) | (simp [*, errW_none, errW_some] <;> rfl), by repeat (first | (with_reducible first | exact HB.out | apply below_alloc | apply pw_below_drewN | apply below_drew1) | exact HB.out)⟩
                · rw [if_neg c138] at H
                  have c138b0 : (t258 == 1) = false := beq_eq_false_iff_ne.mpr c138
                  have c138b1 : (t258 != 1) = true := bne_iff_ne.mpr c138
                  obtain rfl := Option.some.inj H
                  go_wp2_with (first | ((with_reducible refine gate_callee (f := 26) rfl ?_); refine goesL_ (some 53) rfl rfl Try.func26 (by kernel_rfl) rfl #[.int .i64 (wrap64 (a0 + 1))] rfl (by (try simp only [List.map_toArray, List.map_cons, List.map_nil]); first | done | rfl | (simp only [List.length_drop, List.length_take]; rfl)) ?_; (with_reducible refine (civil_Date.calls (wrap64 (a0 + 1)) t257 t258 t259 t260 _ A13.out).mono ?_); rintro e w152 ⟨rfl, hb⟩; refine ⟨_, rfl, ?_⟩; have n0_ := Aside0.mk (below_step (by repeat (first | (with_reducible first | exact HB.out | apply below_alloc | apply pw_below_drewN | apply below_drew1) | exact HB.out)) hb); clear HB; have HB := n0_; clear n0_; (try clear hb); (try clear hb2); (try clear hk); (try clear hi)))
                  go_ret
                  exact ⟨by first | rfl | (simp [errW_none, errW_some] <;> rfl) | (simp [*, errW_none, errW_some] <;> rfl), by repeat (first | (with_reducible first | exact HB.out | apply below_alloc | apply pw_below_drewN | apply below_drew1) | exact HB.out)⟩
              · rw [if_neg c137] at H
                have c137b0 : (t257 == (wrap64 (t248 + 1))) = false := beq_eq_false_iff_ne.mpr c137
                have c137b1 : (t257 != (wrap64 (t248 + 1))) = true := bne_iff_ne.mpr c137
                obtain rfl := Option.some.inj H
                go_wp2_with (first | ((with_reducible refine gate_callee (f := 26) rfl ?_); refine goesL_ (some 53) rfl rfl Try.func26 (by kernel_rfl) rfl #[.int .i64 (wrap64 (a0 + 1))] rfl (by (try simp only [List.map_toArray, List.map_cons, List.map_nil]); first | done | rfl | (simp only [List.length_drop, List.length_take]; rfl)) ?_; (with_reducible refine (civil_Date.calls (wrap64 (a0 + 1)) t257 t258 t259 t260 _ A13.out).mono ?_); rintro e w153 ⟨rfl, hb⟩; refine ⟨_, rfl, ?_⟩; have n0_ := Aside0.mk (below_step (by repeat (first | (with_reducible first | exact HB.out | apply below_alloc | apply pw_below_drewN | apply below_drew1) | exact HB.out)) hb); clear HB; have HB := n0_; clear n0_; (try clear hb); (try clear hb2); (try clear hk); (try clear hi)))
                go_ret
                exact ⟨by first | rfl | (simp [errW_none, errW_some] <;> rfl) | (simp [*, errW_none, errW_some] <;> rfl), by repeat (first | (with_reducible first | exact HB.out | apply below_alloc | apply pw_below_drewN | apply below_drew1) | exact HB.out)⟩
          · rw [if_neg c14] at H
            have c14b0 : (t260 == 0) = false := beq_eq_false_iff_ne.mpr c14
            have c14b1 : (t260 != 0) = true := bne_iff_ne.mpr c14
            replace H := Option.bind_eq_some_iff.mp H
            obtain ⟨t261, A1540, H⟩ := H
            replace H : (if a0 = t261 then ((computuslaw02_known.f kj4).bind fun t262 => (some t262)) else (some false)) = some r := H
            have A154 := Aside0.mk A1540
            clear A1540
            by_cases c155 : a0 = t261
            · rw [if_pos c155] at H
              have c155b0 : (a0 == t261) = true := beq_iff_eq.mpr c155
              have c155b1 : (a0 != t261) = false := bne_eq_false_iff_eq.mpr c155
              clear c155
              replace H := Option.bind_eq_some_iff.mp H
              obtain ⟨t262, A1560, H⟩ := H
              replace H : (some t262) = some r := H
              have A156 := Aside0.mk A1560
              clear A1560
              obtain rfl := Option.some.inj H
              go_wp2_with (first | ((with_reducible refine gate_callee (f := 26) rfl ?_); refine goesL_ (some 53) rfl rfl Try.func26 (by kernel_rfl) rfl #[.int .i64 (wrap64 (a0 + 1))] rfl (by (try simp only [List.map_toArray, List.map_cons, List.map_nil]); first | done | rfl | (simp only [List.length_drop, List.length_take]; rfl)) ?_; (with_reducible refine (civil_Date.calls (wrap64 (a0 + 1)) t257 t258 t259 t260 _ A13.out).mono ?_); rintro e w157 ⟨rfl, hb⟩; refine ⟨_, rfl, ?_⟩; have n0_ := Aside0.mk (below_step (by repeat (first | (with_reducible first | exact HB.out | apply below_alloc | apply pw_below_drewN | apply below_drew1) | exact HB.out)) hb); clear HB; have HB := n0_; clear n0_; (try clear hb); (try clear hb2); (try clear hk); (try clear hi)) | ((with_reducible refine gate_callee (f := 19) rfl ?_); refine goesL_ (some 61) rfl rfl Try.func19 (by kernel_rfl) rfl #[] rfl (by (try simp only [List.map_toArray, List.map_cons, List.map_nil]); first | done | rfl | (simp only [List.length_drop, List.length_take]; rfl)) ?_; (with_reducible refine (civil_Last.calls  t261 _ A154.out).mono ?_); rintro e w' ⟨rfl, ⟨nd, rfl⟩⟩; refine ⟨_, rfl, ?_⟩) | (go_at_call 21; (with_reducible refine (computuslaw02_known.calls kj4  t262 _ A156.out).mono ?_); rintro e w158 ⟨rfl, hb⟩; have n0_ := Aside0.mk (below_step (by repeat (first | (with_reducible first | exact HB.out | apply below_alloc | apply pw_below_drewN | apply below_drew1) | exact HB.out)) hb); clear HB; have HB := n0_; clear n0_; (try clear hb); (try clear hb2); (try clear hk); (try clear hi)))
              go_ret
              exact ⟨by first | rfl | (simp [errW_none, errW_some] <;> rfl) | (simp [*, errW_none, errW_some] <;> rfl), by repeat (first | (with_reducible first | exact HB.out | apply below_alloc | apply pw_below_drewN | apply below_drew1) | exact HB.out)⟩
            · rw [if_neg c155] at H
              have c155b0 : (a0 == t261) = false := beq_eq_false_iff_ne.mpr c155
              have c155b1 : (a0 != t261) = true := bne_iff_ne.mpr c155
              obtain rfl := Option.some.inj H
              go_wp2_with (first | ((with_reducible refine gate_callee (f := 26) rfl ?_); refine goesL_ (some 53) rfl rfl Try.func26 (by kernel_rfl) rfl #[.int .i64 (wrap64 (a0 + 1))] rfl (by (try simp only [List.map_toArray, List.map_cons, List.map_nil]); first | done | rfl | (simp only [List.length_drop, List.length_take]; rfl)) ?_; (with_reducible refine (civil_Date.calls (wrap64 (a0 + 1)) t257 t258 t259 t260 _ A13.out).mono ?_); rintro e w159 ⟨rfl, hb⟩; refine ⟨_, rfl, ?_⟩; have n0_ := Aside0.mk (below_step (by repeat (first | (with_reducible first | exact HB.out | apply below_alloc | apply pw_below_drewN | apply below_drew1) | exact HB.out)) hb); clear HB; have HB := n0_; clear n0_; (try clear hb); (try clear hb2); (try clear hk); (try clear hi)) | ((with_reducible refine gate_callee (f := 19) rfl ?_); refine goesL_ (some 61) rfl rfl Try.func19 (by kernel_rfl) rfl #[] rfl (by (try simp only [List.map_toArray, List.map_cons, List.map_nil]); first | done | rfl | (simp only [List.length_drop, List.length_take]; rfl)) ?_; (with_reducible refine (civil_Last.calls  t261 _ A154.out).mono ?_); rintro e w' ⟨rfl, ⟨nd, rfl⟩⟩; refine ⟨_, rfl, ?_⟩))
              go_ret
              exact ⟨by first | rfl | (simp [errW_none, errW_some] <;> rfl) | (simp [*, errW_none, errW_some] <;> rfl), by repeat (first | (with_reducible first | exact HB.out | apply below_alloc | apply pw_below_drewN | apply below_drew1) | exact HB.out)⟩
  · rw [if_neg c3] at H
    have c3b0 : (t251 == 0) = false := beq_eq_false_iff_ne.mpr c3
    have c3b1 : (t251 != 0) = true := bne_iff_ne.mpr c3
    replace H := Option.bind_eq_some_iff.mp H
    obtain ⟨t252, A1600, H⟩ := H
    replace H : (if t252 = true then (some false) else ((computuslaw02_known.f k).bind fun t253 => (some t253))) = some r := H
    have A160 := Aside0.mk A1600
    clear A1600
    by_cases c161 : t252 = true
    · subst c161
      have H1 : (some false) = some r := by rw [if_pos rfl] at H; exact H
      clear H
      have H := H1
      clear H1
      obtain rfl := Option.some.inj H
      go_enter Try.func7, Try.ntmps7
      go_wp2_with (first | ((with_reducible refine gate_callee (f := 26) rfl ?_); refine goesL_ (some 16) rfl rfl Try.func26 (by kernel_rfl) rfl #[.int .i64 a0] rfl (by (try simp only [List.map_toArray, List.map_cons, List.map_nil]); first | done | rfl | (simp only [List.length_drop, List.length_take]; rfl)) ?_; (with_reducible refine (civil_Date.calls a0 t248 t249 t250 t251 _ A2.out).mono ?_); rintro e w162 ⟨rfl, hb⟩; refine ⟨_, rfl, ?_⟩; have n0_ := Aside0.mk (below_step (by repeat (first | (with_reducible first | exact HB.out | apply below_alloc | apply pw_below_drewN | apply below_drew1) | exact HB.out)) hb); clear HB; have HB := n0_; clear n0_; (try clear hb); (try clear hb2); (try clear hk); (try clear hi)) | ((with_reducible refine gate_callee (f := 34) rfl ?_); refine goesL_ (some 24) rfl rfl Try.func34 (by kernel_rfl) rfl #[.int .i64 a0] rfl (by (try simp only [List.map_toArray, List.map_cons, List.map_nil]); first | done | rfl | (simp only [List.length_drop, List.length_take]; rfl)) ?_; (with_reducible refine (computusref02_Can.calls k a0 true _ A160.out).mono ?_); rintro e w' ⟨rfl, ⟨nd, rfl⟩⟩; refine ⟨_, rfl, ?_⟩))
      go_ret
      exact ⟨by first | rfl | (simp [errW_none, errW_some] <;> rfl) | (simp [*, errW_none, errW_some] <;> rfl), by repeat (first | (with_reducible first | exact HB.out | apply below_alloc | apply pw_below_drewN | apply below_drew1) | exact HB.out)⟩
    · replace c161 := Bool.eq_false_iff.mpr c161
      subst c161
      have H1 : ((computuslaw02_known.f k).bind fun t253 => (some t253)) = some r := by rw [if_neg (show ¬ (false = true) by decide)] at H; exact H
      clear H
      have H := H1
      clear H1
      replace H := Option.bind_eq_some_iff.mp H
      obtain ⟨t253, A1630, H⟩ := H
      replace H : (some t253) = some r := H
      have A163 := Aside0.mk A1630
      clear A1630
      obtain rfl := Option.some.inj H
      go_enter Try.func7, Try.ntmps7
      go_wp2_with (first | ((with_reducible refine gate_callee (f := 26) rfl ?_); refine goesL_ (some 16) rfl rfl Try.func26 (by kernel_rfl) rfl #[.int .i64 a0] rfl (by (try simp only [List.map_toArray, List.map_cons, List.map_nil]); first | done | rfl | (simp only [List.length_drop, List.length_take]; rfl)) ?_; (with_reducible refine (civil_Date.calls a0 t248 t249 t250 t251 _ A2.out).mono ?_); rintro e w164 ⟨rfl, hb⟩; refine ⟨_, rfl, ?_⟩; have n0_ := Aside0.mk (below_step (by repeat (first | (with_reducible first | exact HB.out | apply below_alloc | apply pw_below_drewN | apply below_drew1) | exact HB.out)) hb); clear HB; have HB := n0_; clear n0_; (try clear hb); (try clear hb2); (try clear hk); (try clear hi)) | ((with_reducible refine gate_callee (f := 34) rfl ?_); refine goesL_ (some 24) rfl rfl Try.func34 (by kernel_rfl) rfl #[.int .i64 a0] rfl (by (try simp only [List.map_toArray, List.map_cons, List.map_nil]); first | done | rfl | (simp only [List.length_drop, List.length_take]; rfl)) ?_; (with_reducible refine (computusref02_Can.calls k a0 false _ A160.out).mono ?_); rintro e w' ⟨rfl, ⟨nd, rfl⟩⟩; refine ⟨_, rfl, ?_⟩) | (go_at_call 21; (with_reducible refine (computuslaw02_known.calls k  t253 _ A163.out).mono ?_); rintro e w165 ⟨rfl, hb⟩; have n0_ := Aside0.mk (below_step (by repeat (first | (with_reducible first | exact HB.out | apply below_alloc | apply pw_below_drewN | apply below_drew1) | exact HB.out)) hb); clear HB; have HB := n0_; clear n0_; (try clear hb); (try clear hb2); (try clear hk); (try clear hi)))
      go_ret
      exact ⟨by first | rfl | (simp [errW_none, errW_some] <;> rfl) | (simp [*, errW_none, errW_some] <;> rfl), by repeat (first | (with_reducible first | exact HB.out | apply below_alloc | apply pw_below_drewN | apply below_drew1) | exact HB.out)⟩

/-- THE ONE PURE STATEMENT of computuslaw02_CivilBack: yours. -/
def computuslaw02_CivilBack.Pure : Prop := ∀ (a0 : Int), (Lit.int .i64 a0).wf = true → ∃ k, computuslaw02_CivilBack.f k a0 = some true
theorem computuslaw02_CivilBack.walk (P : computuslaw02_CivilBack.Pure) (a0 : Int) (w : World) (w0 : (Lit.int .i64 a0).wf = true) :
    Calls Try.prog 7 #[.int .i64 a0] w fun e w' => e = .returned (.bool true) ∧ Below w.heap.size w w' := by
  obtain ⟨k, h⟩ := P a0 w0
  refine (computuslaw02_CivilBack.calls k a0 true w h).mono ?_
  rintro e w' ⟨rfl, hd⟩
  exact ⟨rfl, hd⟩

end Go.Proofs.Ytjdoafjpdnfmdaa.P
