-- Written by a program of the session (a print of the seat's translation, functions given by hand among it). Lean checks it.
import Derived.Test.YteceeoaabmbckaaQnfimnniaco
import Derived.Test.YteceeoaabmbckaaQdecmicjbol
import Derived.Test.YteceeoaabmbckaaQlklffkjaej
import Derived.Test.YteceeoaabmbckaaQjpaklppbmf
import Derived.Test.YteceeoaabmbckaaQbipflkhnkk
import Derived.Test.YteceeoaabmbckaaQmjhodgighc
import Derived.Test.YteceeoaabmbckaaQogdbhampda
namespace Go.Proofs.Yteceeoaabmbckaa.P
open Go.RowKit Go.Proofs.YteceeoaabmbckaaW.PrintWords Go.Proofs.YteceeoaabmbckaaW.PrintLast Go.Proofs.YteceeoaabmbckaaW.PrintMore
attribute [local go_sem] max2_int min2_int max_two min_two max_three min_three max_four min_four   -- for this text's walks alone
set_option linter.unusedVariables false
set_option linter.unusedSimpArgs false
def computuslaw21_SeriesInts.j0 : Nat → List Int → Int → List Int → Int → Int → Int → Int → Int → Bool → Option (Bool)
  | 0, _, _, _, _, _, _, _, _, _ => none
  | k + 1, x9, x10, x11, x12, x13, x14, x15, x16, x59 => if x59 = true then (some false) else ((computuslaw21_same.f k x9 x11).bind fun t405 => (if t405 = true then (if x10 = x12 then (if x13 = x15 then (if x14 = x16 then ((computuslaw21_known.f).bind fun t406 => (some t406)) else (some false)) else (some false)) else (some false)) else (some false)))
def computuslaw21_SeriesInts.f (k : Nat) (a0 : Int) (a1 : Int) (a2 : Int) (a3 : Int) : Option (Bool) := (series_Ints.f k a0 a1 a2 a3).bind fun bt393 => ((computusref21_Ints.f k a0 a1 a2 a3).bind fun bt397 => ((series_Count.f k a0 a1 a2).bind fun bt401 => ((computusref21_Count.f k a0 a1 a2).bind fun bt403 => (if bt393.2 = 0 then (if bt401.2 = 0 then (computuslaw21_SeriesInts.j0 k bt393.1 bt393.2 bt397.1 bt397.2 bt401.1 bt401.2 bt403.1 bt403.2 (bt401.1 != (IntKind.u64.wrap ((bt393.1.length : Int))))) else (computuslaw21_SeriesInts.j0 k bt393.1 bt393.2 bt397.1 bt397.2 bt401.1 bt401.2 bt403.1 bt403.2 true)) else (computuslaw21_SeriesInts.j0 k bt393.1 bt393.2 bt397.1 bt397.2 bt401.1 bt401.2 bt403.1 bt403.2 false)))))
set_option maxHeartbeats 8000000 in
set_option maxRecDepth 100000 in
theorem computuslaw21_SeriesInts.calls (k : Nat) (a0 : Int) (a1 : Int) (a2 : Int) (a3 : Int) (r : Bool) (w : World) (h : computuslaw21_SeriesInts.f k a0 a1 a2 a3 = some r) (hR : r = true) :
    Calls Try.prog 3 #[.int .i64 a0, .int .i64 a1, .int .i64 a2, .int .i64 a3] w fun e w' => e = .returned (.bool r) ∧ Below w.heap.size w w' := by
  have HRT := Aside0.mk hR
  clear hR
  have HB := Aside0.mk (Below.refl w.heap.size w)
  have H : ((series_Ints.f k a0 a1 a2 a3).bind fun bt393 => ((computusref21_Ints.f k a0 a1 a2 a3).bind fun bt397 => ((series_Count.f k a0 a1 a2).bind fun bt401 => ((computusref21_Count.f k a0 a1 a2).bind fun bt403 => (if bt393.2 = 0 then (if bt401.2 = 0 then (computuslaw21_SeriesInts.j0 k bt393.1 bt393.2 bt397.1 bt397.2 bt401.1 bt401.2 bt403.1 bt403.2 (bt401.1 != (IntKind.u64.wrap ((bt393.1.length : Int))))) else (computuslaw21_SeriesInts.j0 k bt393.1 bt393.2 bt397.1 bt397.2 bt401.1 bt401.2 bt403.1 bt403.2 true)) else (computuslaw21_SeriesInts.j0 k bt393.1 bt393.2 bt397.1 bt397.2 bt401.1 bt401.2 bt403.1 bt403.2 false)))))) = some r := h
  clear h
  replace H := Option.bind_eq_some_iff.mp H
  obtain ⟨⟨t393, t394⟩, A50, H⟩ := H
  replace H : ((computusref21_Ints.f k a0 a1 a2 a3).bind fun bt397 => ((series_Count.f k a0 a1 a2).bind fun bt401 => ((computusref21_Count.f k a0 a1 a2).bind fun bt403 => (if t394 = 0 then (if bt401.2 = 0 then (computuslaw21_SeriesInts.j0 k t393 t394 bt397.1 bt397.2 bt401.1 bt401.2 bt403.1 bt403.2 (bt401.1 != (IntKind.u64.wrap ((t393.length : Int))))) else (computuslaw21_SeriesInts.j0 k t393 t394 bt397.1 bt397.2 bt401.1 bt401.2 bt403.1 bt403.2 true)) else (computuslaw21_SeriesInts.j0 k t393 t394 bt397.1 bt397.2 bt401.1 bt401.2 bt403.1 bt403.2 false))))) = some r := H
  have A5 := Aside0.mk A50
  clear A50
  replace H := Option.bind_eq_some_iff.mp H
  obtain ⟨⟨t397, t398⟩, A60, H⟩ := H
  replace H : ((series_Count.f k a0 a1 a2).bind fun bt401 => ((computusref21_Count.f k a0 a1 a2).bind fun bt403 => (if t394 = 0 then (if bt401.2 = 0 then (computuslaw21_SeriesInts.j0 k t393 t394 t397 t398 bt401.1 bt401.2 bt403.1 bt403.2 (bt401.1 != (IntKind.u64.wrap ((t393.length : Int))))) else (computuslaw21_SeriesInts.j0 k t393 t394 t397 t398 bt401.1 bt401.2 bt403.1 bt403.2 true)) else (computuslaw21_SeriesInts.j0 k t393 t394 t397 t398 bt401.1 bt401.2 bt403.1 bt403.2 false)))) = some r := H
  have A6 := Aside0.mk A60
  clear A60
  replace H := Option.bind_eq_some_iff.mp H
  obtain ⟨⟨t401, t402⟩, A70, H⟩ := H
  replace H : ((computusref21_Count.f k a0 a1 a2).bind fun bt403 => (if t394 = 0 then (if t402 = 0 then (computuslaw21_SeriesInts.j0 k t393 t394 t397 t398 t401 t402 bt403.1 bt403.2 (t401 != (IntKind.u64.wrap ((t393.length : Int))))) else (computuslaw21_SeriesInts.j0 k t393 t394 t397 t398 t401 t402 bt403.1 bt403.2 true)) else (computuslaw21_SeriesInts.j0 k t393 t394 t397 t398 t401 t402 bt403.1 bt403.2 false))) = some r := H
  have A7 := Aside0.mk A70
  clear A70
  replace H := Option.bind_eq_some_iff.mp H
  obtain ⟨⟨t403, t404⟩, A80, H⟩ := H
  replace H : (if t394 = 0 then (if t402 = 0 then (computuslaw21_SeriesInts.j0 k t393 t394 t397 t398 t401 t402 t403 t404 (t401 != (IntKind.u64.wrap ((t393.length : Int))))) else (computuslaw21_SeriesInts.j0 k t393 t394 t397 t398 t401 t402 t403 t404 true)) else (computuslaw21_SeriesInts.j0 k t393 t394 t397 t398 t401 t402 t403 t404 false)) = some r := H
  have A8 := Aside0.mk A80
  clear A80
  have HC9 := Aside0.mk H
  clear H
  go_enter Try.func3, Try.ntmps3
  go_upto_region 5 with (first | ((with_reducible refine gate_callee (f := 5) rfl ?_); refine goesL_ (some 22) rfl rfl Try.func5 (by kernel_rfl) rfl #[.int .i64 a0, .int .i64 a1, .int .i64 a2, .int .i64 a3] rfl (by (try simp only [List.map_toArray, List.map_cons, List.map_nil]); first | done | rfl | (simp only [List.length_drop, List.length_take]; rfl)) ?_; (with_reducible refine (series_Ints.calls k a0 a1 a2 a3 t393 t394 _ A5.out).mono ?_); rintro e w10 ⟨v395, rfl, ho0, hb⟩; refine ⟨_, rfl, ?_⟩; have n0_ := Aside0.mk (Kd.R_lower ho0 (below_size (by repeat (first | (with_reducible first | exact HB.out | apply below_alloc | apply pw_below_drewN | apply below_drew1) | exact HB.out)))); have n1_ := Aside0.mk (below_step (by repeat (first | (with_reducible first | exact HB.out | apply below_alloc | apply pw_below_drewN | apply below_drew1) | exact HB.out)) hb); clear HB; have HO396 := n0_; have HB := n1_; clear n0_ n1_; (try clear hb); (try clear hb2); (try clear hk); (try clear hi); (try clear ho0)) | ((with_reducible refine gate_callee (f := 6) rfl ?_); refine goesL_ (some 30) rfl rfl Try.func6 (by kernel_rfl) rfl #[.int .i64 a0, .int .i64 a1, .int .i64 a2, .int .i64 a3] rfl (by (try simp only [List.map_toArray, List.map_cons, List.map_nil]); first | done | rfl | (simp only [List.length_drop, List.length_take]; rfl)) ?_; (with_reducible refine (computusref21_Ints.calls k a0 a1 a2 a3 t397 t398 _ A6.out).mono ?_); rintro e w11 ⟨v399, rfl, ho0, hb⟩; refine ⟨_, rfl, ?_⟩; have n0_ := Aside0.mk (Kd.R_elder' (by (with_reducible repeat (first | apply Kd.R_alloc | apply Kd.R_drewN | apply Kd.R_drew)); exact HO396.out) (Kd.R_base ho0) hb); have n1_ := Aside0.mk (Kd.R_lower (Kd.R_new' ho0 (Kd.R_lt (by (with_reducible repeat (first | apply Kd.R_alloc | apply Kd.R_drewN | apply Kd.R_drew)); exact HO396.out))) (below_size (by repeat (first | (with_reducible first | exact HB.out | apply below_alloc | apply pw_below_drewN | apply below_drew1) | exact HB.out)))); have n2_ := Aside0.mk (below_step (by repeat (first | (with_reducible first | exact HB.out | apply below_alloc | apply pw_below_drewN | apply below_drew1) | exact HB.out)) hb); clear HO396; clear HB; have HO396 := n0_; have HO400 := n1_; have HB := n2_; clear n0_ n1_ n2_; (try clear hb); (try clear hb2); (try clear hk); (try clear hi); (try clear ho0)) | ((with_reducible refine gate_callee (f := 7) rfl ?_); refine goesL_ (some 37) rfl rfl Try.func7 (by kernel_rfl) rfl #[.int .i64 a0, .int .i64 a1, .int .i64 a2] rfl (by (try simp only [List.map_toArray, List.map_cons, List.map_nil]); first | done | rfl | (simp only [List.length_drop, List.length_take]; rfl)) ?_; (with_reducible refine (series_Count.calls k a0 a1 a2 t401 t402 _ A7.out).mono ?_); rintro e w' ⟨rfl, ⟨nd, rfl⟩⟩; refine ⟨_, rfl, ?_⟩) | ((with_reducible refine gate_callee (f := 8) rfl ?_); refine goesL_ (some 44) rfl rfl Try.func8 (by kernel_rfl) rfl #[.int .i64 a0, .int .i64 a1, .int .i64 a2] rfl (by (try simp only [List.map_toArray, List.map_cons, List.map_nil]); first | done | rfl | (simp only [List.length_drop, List.length_take]; rfl)) ?_; (with_reducible refine (computusref21_Count.calls k a0 a1 a2 t403 t404 _ A8.out).mono ?_); rintro e w12 ⟨rfl, hb⟩; refine ⟨_, rfl, ?_⟩; have n0_ := Aside0.mk (Kd.R_below (by (with_reducible repeat (first | apply Kd.R_alloc | apply Kd.R_drewN | apply Kd.R_drew)); exact HO396.out) hb); have n1_ := Aside0.mk (Kd.R_below (by (with_reducible repeat (first | apply Kd.R_alloc | apply Kd.R_drewN | apply Kd.R_drew)); exact HO400.out) hb); have n2_ := Aside0.mk (below_step (by repeat (first | (with_reducible first | exact HB.out | apply below_alloc | apply pw_below_drewN | apply below_drew1) | exact HB.out)) hb); clear HO396; clear HO400; clear HB; have HO396 := n0_; have HO400 := n1_; have HB := n2_; clear n0_ n1_ n2_; (try clear hb); (try clear hb2); (try clear hk); (try clear hi)))
  (try simp only [Act.put, List.setIfInBounds_toArray, List.set_cons_zero, List.set_cons_succ])
  go_cut [59] (fun v59 wc => ∃ (kq : Nat) (x59_8 : Bool), v59 = .bool x59_8 ∧ Aside0 (computuslaw21_SeriesInts.j0 kq t393 t394 t397 t398 t401 t402 t403 t404 x59_8 = some r) ∧ Aside0 (kq ≤ k) ∧ Aside0 (Kd.R (Kd.int .i64) 2 wc w.heap.size (fun k_ => some k_ ≠ (v399 : Value).ownBlock) v395 t393) ∧ Aside0 (Kd.R (Kd.int .i64) 2 wc w.heap.size (fun k_ => some k_ ≠ (v395 : Value).ownBlock) v399 t397) ∧ Aside0 (Below w.heap.size w wc))
  case first =>
    have H := HC9.out
    clear HC9
    by_cases c13 : t394 = 0
    · rw [if_pos c13] at H
      have c13b0 : (t394 == 0) = true := beq_iff_eq.mpr c13
      have c13b1 : (t394 != 0) = false := bne_eq_false_iff_eq.mpr c13
      clear c13
      (first | rw [c13b0] | (simp only [i64_w, i32_w]; rw [c13b0]) | skip)
      by_cases c14 : t402 = 0
      · rw [if_pos c14] at H
        have c14b0 : (t402 == 0) = true := beq_iff_eq.mpr c14
        have c14b1 : (t402 != 0) = false := bne_eq_false_iff_eq.mpr c14
        clear c14
        have H' := Aside0.mk H
        clear H
        obtain ⟨Ao15, co15, eo15⟩ := Kd.R_slice HO396.out
        subst eo15
        go_wp2
        go_meet
        case rel => exact ⟨_, ((t401 != (IntKind.u64.wrap ((t393.length : Int))))), (by first | rfl | (simp; done) | (simp [*]; done)), H', ⟨by first | omega | exact Nat.le_refl _⟩, ⟨by (with_reducible repeat (first | apply Kd.R_alloc | apply Kd.R_drewN | apply Kd.R_drew)); exact Kd.R_mono HO396.out (fun _ hk => hk.2)⟩, ⟨by (with_reducible repeat (first | apply Kd.R_alloc | apply Kd.R_drewN | apply Kd.R_drew)); exact Kd.R_mono HO400.out (fun _ hk => hk.2)⟩, ⟨by repeat (first | (with_reducible first | exact HB.out | apply below_alloc | apply pw_below_drewN | apply below_drew1) | exact HB.out)⟩⟩
      · rw [if_neg c14] at H
        have c14b0 : (t402 == 0) = false := beq_eq_false_iff_ne.mpr c14
        have c14b1 : (t402 != 0) = true := bne_iff_ne.mpr c14
        have H' := Aside0.mk H
        clear H
        go_wp2
        go_meet
        case rel => exact ⟨_, (true), (by first | rfl | (simp; done) | (simp [*]; done)), H', ⟨by first | omega | exact Nat.le_refl _⟩, ⟨by (with_reducible repeat (first | apply Kd.R_alloc | apply Kd.R_drewN | apply Kd.R_drew)); exact Kd.R_mono HO396.out (fun _ hk => hk.2)⟩, ⟨by (with_reducible repeat (first | apply Kd.R_alloc | apply Kd.R_drewN | apply Kd.R_drew)); exact Kd.R_mono HO400.out (fun _ hk => hk.2)⟩, ⟨by repeat (first | (with_reducible first | exact HB.out | apply below_alloc | apply pw_below_drewN | apply below_drew1) | exact HB.out)⟩⟩
    · rw [if_neg c13] at H
      have c13b0 : (t394 == 0) = false := beq_eq_false_iff_ne.mpr c13
      have c13b1 : (t394 != 0) = true := bne_iff_ne.mpr c13
      (first | rw [c13b0] | (simp only [i64_w, i32_w]; rw [c13b0]) | skip)
      have H' := Aside0.mk H
      clear H
      go_wp2
      go_meet
      case rel => exact ⟨_, (false), (by first | rfl | (simp; done) | (simp [*]; done)), H', ⟨by first | omega | exact Nat.le_refl _⟩, ⟨by (with_reducible repeat (first | apply Kd.R_alloc | apply Kd.R_drewN | apply Kd.R_drew)); exact Kd.R_mono HO396.out (fun _ hk => hk.2)⟩, ⟨by (with_reducible repeat (first | apply Kd.R_alloc | apply Kd.R_drewN | apply Kd.R_drew)); exact Kd.R_mono HO400.out (fun _ hk => hk.2)⟩, ⟨by repeat (first | (with_reducible first | exact HB.out | apply below_alloc | apply pw_below_drewN | apply below_drew1) | exact HB.out)⟩⟩
  case rest =>
    clear HC9
    try clear c1
    try clear p2
    try clear c3
    try clear c5
    try clear c6
    try clear c7
    try clear c8
    try clear c13
    try clear c13b0
    try clear c13b1
    try clear c14
    try clear c14b0
    try clear c14b1
    obtain ⟨kq, x59_8, rfl, HA, HJ8, HO_9, HO_11, HB⟩ := hcut
    cases kq with
    | zero => exact absurd HA.out (by simp [computuslaw21_SeriesInts.j0])
    | succ kj8 =>
      have H := HA.out
      clear HA
      simp only [computuslaw21_SeriesInts.j0] at H
      by_cases c16 : x59_8 = true
      · subst c16
        have H1 : (some false) = some r := by rw [if_pos rfl] at H; exact H
        clear H
        have H := H1
        clear H1
        exact absurd (Option.some.inj H) (by rw [HRT.out]; decide)
      · replace c16 := Bool.eq_false_iff.mpr c16
        subst c16
        have H1 : ((computuslaw21_same.f kj8 t393 t397).bind fun t405 => (if t405 = true then (if t394 = t398 then (if t401 = t403 then (if t402 = t404 then ((computuslaw21_known.f).bind fun t406 => (some t406)) else (some false)) else (some false)) else (some false)) else (some false))) = some r := by rw [if_neg (show ¬ (false = true) by decide)] at H; exact H
        clear H
        have H := H1
        clear H1
        replace H := Option.bind_eq_some_iff.mp H
        obtain ⟨t405, A170, H⟩ := H
        replace H : (if t405 = true then (if t394 = t398 then (if t401 = t403 then (if t402 = t404 then ((computuslaw21_known.f).bind fun t406 => (some t406)) else (some false)) else (some false)) else (some false)) else (some false)) = some r := H
        have A17 := Aside0.mk A170
        clear A170
        by_cases c18 : t405 = true
        · subst c18
          have H1 : (if t394 = t398 then (if t401 = t403 then (if t402 = t404 then ((computuslaw21_known.f).bind fun t406 => (some t406)) else (some false)) else (some false)) else (some false)) = some r := by rw [if_pos rfl] at H; exact H
          clear H
          have H := H1
          clear H1
          by_cases c19 : t394 = t398
          · rw [if_pos c19] at H
            have c19b0 : (t394 == t398) = true := beq_iff_eq.mpr c19
            have c19b1 : (t394 != t398) = false := bne_eq_false_iff_eq.mpr c19
            clear c19
            by_cases c20 : t401 = t403
            · rw [if_pos c20] at H
              have c20b0 : (t401 == t403) = true := beq_iff_eq.mpr c20
              have c20b1 : (t401 != t403) = false := bne_eq_false_iff_eq.mpr c20
              clear c20
              by_cases c21 : t402 = t404
              · rw [if_pos c21] at H
                have c21b0 : (t402 == t404) = true := beq_iff_eq.mpr c21
                have c21b1 : (t402 != t404) = false := bne_eq_false_iff_eq.mpr c21
                clear c21
                replace H := Option.bind_eq_some_iff.mp H
                obtain ⟨t406, A220, H⟩ := H
                replace H : (some t406) = some r := H
                have A22 := Aside0.mk A220
                clear A220
                obtain rfl := Option.some.inj H
                obtain ⟨Ao23, co23, eo23⟩ := Kd.R_slice HO_9.out
                subst eo23
                obtain ⟨Ao24, co24, eo24⟩ := Kd.R_slice HO_11.out
                subst eo24
                go_wp2_with (first | ((with_reducible refine gate_callee (f := 9) rfl ?_); refine goesL_ (some 62) rfl rfl Try.func9 (by kernel_rfl) rfl #[.slice Ao23 t393.length co23, .slice Ao24 t397.length co24] rfl (by (try simp only [List.map_toArray, List.map_cons, List.map_nil]); first | done | rfl | (simp only [List.length_drop, List.length_take]; rfl)) ?_; (with_reducible refine (computuslaw21_same.calls kj8 _ _ t393 _ _ t397 true _ ?side1 ?side2 ?side3 ?side4 A17.out).mono ?_); (case side1 => repeat (first | exact (Kd.R_reads' HO_9.out).2.2 | (with_reducible refine Kd.C_alloc ?_ _) | (with_reducible refine Kd.C_drewN ?_ _) | (with_reducible refine Kd.C_drew ?_))); (case side2 => exact (Kd.R_reads' HO_9.out).2.1); (case side3 => repeat (first | exact (Kd.R_reads' HO_11.out).2.2 | (with_reducible refine Kd.C_alloc ?_ _) | (with_reducible refine Kd.C_drewN ?_ _) | (with_reducible refine Kd.C_drew ?_))); (case side4 => exact (Kd.R_reads' HO_11.out).2.1); rintro e w' ⟨rfl, ⟨nd, rfl⟩⟩; refine ⟨_, rfl, ?_⟩) | (go_at_call 10; (with_reducible refine (computuslaw21_known.calls  t406 _ A22.out HRT.out).mono ?_); rintro e w25 ⟨rfl, hb⟩; have n0_ := Aside0.mk (Kd.R_below (by (with_reducible repeat (first | apply Kd.R_alloc | apply Kd.R_drewN | apply Kd.R_drew)); exact HO_9.out) hb); have n1_ := Aside0.mk (Kd.R_below (by (with_reducible repeat (first | apply Kd.R_alloc | apply Kd.R_drewN | apply Kd.R_drew)); exact HO_11.out) hb); have n2_ := Aside0.mk (below_step (by repeat (first | (with_reducible first | exact HB.out | apply below_alloc | apply pw_below_drewN | apply below_drew1) | exact HB.out)) hb); clear HO_9; clear HO_11; clear HB; have HO_9 := n0_; have HO_11 := n1_; have HB := n2_; clear n0_ n1_ n2_; (try clear hb); (try clear hb2); (try clear hk); (try clear hi)))
                go_ret
                exact ⟨by first | rfl | (simp [errW_none, errW_some] <;> rfl) | (simp [*, errW_none, errW_some] <;> rfl), by repeat (first | (with_reducible first | exact HB.out | apply below_alloc | apply pw_below_drewN | apply below_drew1) | exact HB.out)⟩
              · rw [if_neg c21] at H
                have c21b0 : (t402 == t404) = false := beq_eq_false_iff_ne.mpr c21
                have c21b1 : (t402 != t404) = true := bne_iff_ne.mpr c21
                exact absurd (Option.some.inj H) (by rw [HRT.out]; decide)
            · rw [if_neg c20] at H
              have c20b0 : (t401 == t403) = false := beq_eq_false_iff_ne.mpr c20
              have c20b1 : (t401 != t403) = true := bne_iff_ne.mpr c20
              exact absurd (Option.some.inj H) (by rw [HRT.out]; decide)
          · rw [if_neg c19] at H
            have c19b0 : (t394 == t398) = false := beq_eq_false_iff_ne.mpr c19
            have c19b1 : (t394 != t398) = true := bne_iff_ne.mpr c19
            exact absurd (Option.some.inj H) (by rw [HRT.out]; decide)
        · replace c18 := Bool.eq_false_iff.mpr c18
          subst c18
          have H1 : (some false) = some r := by rw [if_neg (show ¬ (false = true) by decide)] at H; exact H
          clear H
          have H := H1
          clear H1
          exact absurd (Option.some.inj H) (by rw [HRT.out]; decide)
/-- THE ONE PURE STATEMENT of computuslaw21_SeriesInts: yours. -/
def computuslaw21_SeriesInts.Pure : Prop := ∀ (a0 : Int) (a1 : Int) (a2 : Int) (a3 : Int), (Lit.int .i64 a0).wf = true → (Lit.int .i64 a1).wf = true → (Lit.int .i64 a2).wf = true → (Lit.int .i64 a3).wf = true → ∃ k, computuslaw21_SeriesInts.f k a0 a1 a2 a3 = some true
theorem computuslaw21_SeriesInts.walk (P : computuslaw21_SeriesInts.Pure) (a0 : Int) (a1 : Int) (a2 : Int) (a3 : Int) (w : World) (w0 : (Lit.int .i64 a0).wf = true) (w1 : (Lit.int .i64 a1).wf = true) (w2 : (Lit.int .i64 a2).wf = true) (w3 : (Lit.int .i64 a3).wf = true) :
    Calls Try.prog 3 #[.int .i64 a0, .int .i64 a1, .int .i64 a2, .int .i64 a3] w fun e w' => e = .returned (.bool true) ∧ Below w.heap.size w w' := by
  obtain ⟨k, h⟩ := P a0 a1 a2 a3 w0 w1 w2 w3
  refine (computuslaw21_SeriesInts.calls k a0 a1 a2 a3 true w h rfl).mono ?_
  rintro e w' ⟨rfl, hd⟩
  exact ⟨rfl, hd⟩
end Go.Proofs.Yteceeoaabmbckaa.P
