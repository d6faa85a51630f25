-- Written by a program of the session (a print of the seat's translation, functions given by hand among it). Lean checks it.
import Derived.Test.YthkmckmfgglafaaGreatQnliaojbdha
import Derived.Test.YthkmckmfgglafaaGreatQaejhnhmgim
namespace Go.Proofs.YthkmckmfgglafaaGreat.P
open Go.RowKit Go.Proofs.YthkmckmfgglafaaGreatW.PrintWords Go.Proofs.YthkmckmfgglafaaGreatW.PrintLast Go.Proofs.YthkmckmfgglafaaGreatW.PrintMore
open Go.Proofs.YthkmckmfgglafaaGreat.A
attribute [local go_sem] max2_int min2_int max_two min_two max_three min_three max_four min_four   -- for this text's walks alone
set_option linter.unusedVariables false
set_option linter.unusedSimpArgs false
mutual
def computusref02_Date.j1 : Nat → Int → Int → Option (Int × Int × Int × Int)
  | 0, _, _ => none
  | k + 1, x6, x7 => computusref02_Date.l1 k x6 x7 1
def computusref02_Date.l1 : Nat → Int → Int → Int → Option (Int × Int × Int × Int)
  | 0, _, _, _ => none
  | k + 1, x6, x7, x9 => (computusref02_Len.f k x6 x9).bind fun t399 => (if x7 ≥ t399 then ((computusref02_Len.f k x6 x9).bind fun t400 => (computusref02_Date.l1 k x6 (wrap64 (x7 - t400)) (wrap64 (x9 + 1)))) else (some (x6, x9, wrap64 (x7 + 1), 0)))
def computusref02_Date.l0 : Nat → Int → Int → Option (Int × Int × Int × Int)
  | 0, _, _ => none
  | k + 1, x6, x7 => (computusref02_Leap.f x6).bind fun t398 => (if t398 = true then (if x7 < 366 then (computusref02_Date.j1 k x6 x7) else (computusref02_Date.l0 k (wrap64 (x6 + 1)) (wrap64 (x7 - 366)))) else (if x7 < 365 then (computusref02_Date.j1 k x6 x7) else (computusref02_Date.l0 k (wrap64 (x6 + 1)) (wrap64 (x7 - 365)))))
end
def computusref02_Date.f (k : Nat) (a0 : Int) : Option (Int × Int × Int × Int) := (computusref02_Can.f k a0).bind fun t395 => (if t395 = true then ((computusref02_div.f a0 146097).bind fun t396 => ((computusref02_mod.f a0 146097).bind fun t397 => (computusref02_Date.l0 k (wrap64 (2000 + (wrap64 (t396 * 400)))) t397))) else (some (0, 0, 0, 10)))
theorem computusref02_Date.mono_l : ∀ k, (∀ y0 y1, LeO (computusref02_Date.j1 k y0 y1) (computusref02_Date.j1 (k + 1) y0 y1)) ∧ (∀ y0 y1 y2, LeO (computusref02_Date.l1 k y0 y1 y2) (computusref02_Date.l1 (k + 1) y0 y1 y2)) ∧ (∀ y0 y1, LeO (computusref02_Date.l0 k y0 y1) (computusref02_Date.l0 (k + 1) y0 y1))
  | 0 => ⟨fun _ _ r h => by simp [computusref02_Date.j1] at h, fun _ _ _ r h => by simp [computusref02_Date.l1] at h, fun _ _ r h => by simp [computusref02_Date.l0] at h⟩
  | k + 1 => by
    obtain ⟨ih0, ih1, ih2⟩ := computusref02_Date.mono_l k
    refine ⟨?_, ?_, ?_⟩
    · intro y0 y1
      unfold computusref02_Date.j1
      repeat' first
      | (with_reducible exact ih0 _ _)
      | (with_reducible exact ih1 _ _ _)
      | (with_reducible exact ih2 _ _)
      | (with_reducible exact computusref02_Can.mono _ _)
      | (with_reducible exact computusref02_Len.mono _ _ _)
      | (with_reducible exact LeO.refl _)
      | (with_reducible exact LeO.none _)
      | (with_reducible refine LeO.ite ?_ ?_)
      | (with_reducible refine LeO.bind ?_ (fun _ => ?_))
      | exact ih0 _ _
      | exact ih1 _ _ _
      | exact ih2 _ _
      | exact computusref02_Can.mono _ _
      | exact computusref02_Len.mono _ _ _
      | exact LeO.none _
      | refine LeO.ite ?_ ?_
      | refine LeO.bind ?_ (fun _ => ?_)
    · intro y0 y1 y2
      unfold computusref02_Date.l1
      repeat' first
      | (with_reducible exact ih0 _ _)
      | (with_reducible exact ih1 _ _ _)
      | (with_reducible exact ih2 _ _)
      | (with_reducible exact computusref02_Can.mono _ _)
      | (with_reducible exact computusref02_Len.mono _ _ _)
      | (with_reducible exact LeO.refl _)
      | (with_reducible exact LeO.none _)
      | (with_reducible refine LeO.ite ?_ ?_)
      | (with_reducible refine LeO.bind ?_ (fun _ => ?_))
      | exact ih0 _ _
      | exact ih1 _ _ _
      | exact ih2 _ _
      | exact computusref02_Can.mono _ _
      | exact computusref02_Len.mono _ _ _
      | exact LeO.none _
      | refine LeO.ite ?_ ?_
      | refine LeO.bind ?_ (fun _ => ?_)
    · intro y0 y1
      unfold computusref02_Date.l0
      repeat' first
      | (with_reducible exact ih0 _ _)
      | (with_reducible exact ih1 _ _ _)
      | (with_reducible exact ih2 _ _)
      | (with_reducible exact computusref02_Can.mono _ _)
      | (with_reducible exact computusref02_Len.mono _ _ _)
      | (with_reducible exact LeO.refl _)
      | (with_reducible exact LeO.none _)
      | (with_reducible refine LeO.ite ?_ ?_)
      | (with_reducible refine LeO.bind ?_ (fun _ => ?_))
      | exact ih0 _ _
      | exact ih1 _ _ _
      | exact ih2 _ _
      | exact computusref02_Can.mono _ _
      | exact computusref02_Len.mono _ _ _
      | exact LeO.none _
      | refine LeO.ite ?_ ?_
      | refine LeO.bind ?_ (fun _ => ?_)
theorem computusref02_Date.mono : ∀ a0 k, LeO (computusref02_Date.f k a0) (computusref02_Date.f (k + 1) a0) := by
  intro a0 k
  obtain ⟨ih0, ih1, ih2⟩ := computusref02_Date.mono_l k
  unfold computusref02_Date.f
  repeat' first
      | (with_reducible exact ih0 _ _)
      | (with_reducible exact ih1 _ _ _)
      | (with_reducible exact ih2 _ _)
      | (with_reducible exact computusref02_Can.mono _ _)
      | (with_reducible exact computusref02_Len.mono _ _ _)
      | (with_reducible exact LeO.refl _)
      | (with_reducible exact LeO.none _)
      | (with_reducible refine LeO.ite ?_ ?_)
      | (with_reducible refine LeO.bind ?_ (fun _ => ?_))
      | exact ih0 _ _
      | exact ih1 _ _ _
      | exact ih2 _ _
      | exact computusref02_Can.mono _ _
      | exact computusref02_Len.mono _ _ _
      | exact LeO.none _
      | refine LeO.ite ?_ ?_
      | refine LeO.bind ?_ (fun _ => ?_)
set_option maxHeartbeats 8000000 in
set_option maxRecDepth 100000 in
theorem computusref02_Date.calls (k : Nat) (a0 : Int) (r1 : Int) (r2 : Int) (r3 : Int) (r4 : Int) (w : World) (h : computusref02_Date.f k a0 = some (r1, r2, r3, r4)) :
    Calls Tryz.prog 100 #[.int .i64 a0] w fun e w' => e = .returned (.tuple #[.int .i64 r1, .int .i64 r2, .int .i64 r3, .int .i64 r4]) ∧ Drawn0 w w' := by
  have H : ((computusref02_Can.f k a0).bind fun t395 => (if t395 = true then ((computusref02_div.f a0 146097).bind fun t396 => ((computusref02_mod.f a0 146097).bind fun t397 => (computusref02_Date.l0 k (wrap64 (2000 + (wrap64 (t396 * 400)))) t397))) else (some (0, 0, 0, 10)))) = some (r1, r2, r3, r4) := h
  clear h
  replace H := Option.bind_eq_some_iff.mp H
  obtain ⟨t395, A20, H⟩ := H
  replace H : (if t395 = true then ((computusref02_div.f a0 146097).bind fun t396 => ((computusref02_mod.f a0 146097).bind fun t397 => (computusref02_Date.l0 k (wrap64 (2000 + (wrap64 (t396 * 400)))) t397))) else (some (0, 0, 0, 10))) = some (r1, r2, r3, r4) := H
  have A2 := Aside0.mk A20
  clear A20
  by_cases c3 : t395 = true
  · subst c3
    have H1 : ((computusref02_div.f a0 146097).bind fun t396 => ((computusref02_mod.f a0 146097).bind fun t397 => (computusref02_Date.l0 k (wrap64 (2000 + (wrap64 (t396 * 400)))) t397))) = some (r1, r2, r3, r4) := by rw [if_pos rfl] at H; exact H
    clear H
    have H := H1
    clear H1
    replace H := Option.bind_eq_some_iff.mp H
    obtain ⟨t396, A40, H⟩ := H
    replace H : ((computusref02_mod.f a0 146097).bind fun t397 => (computusref02_Date.l0 k (wrap64 (2000 + (wrap64 (t396 * 400)))) t397)) = some (r1, r2, r3, r4) := H
    have A4 := Aside0.mk A40
    clear A40
    replace H := Option.bind_eq_some_iff.mp H
    obtain ⟨t397, A50, H⟩ := H
    replace H : (computusref02_Date.l0 k (wrap64 (2000 + (wrap64 (t396 * 400)))) t397) = some (r1, r2, r3, r4) := H
    have A5 := Aside0.mk A50
    clear A50
    have HC6 := Aside0.mk H
    clear H
    go_enter Tryz.func100, Tryz.ntmps100
    go_upto_block 0 with (first | ((with_reducible refine kI (f := 141) rfl ?_); refine kN (some 11) rfl rfl Tryz.func141 (by kernel_rfl) rfl #[.int .i64 a0] rfl (by (try simp only [List.map_toArray, List.map_cons, List.map_nil]); first | done | rfl | (simp only [List.length_drop, List.length_take]; rfl)) ?_; (with_reducible refine (computusref02_Can.calls k a0 true _ A2.out).mono ?_); rintro e w' ⟨rfl, ⟨nd, rfl⟩⟩; refine ⟨_, rfl, ?_⟩) | ((with_reducible refine kI (f := 142) rfl ?_); refine kN (some 14) rfl rfl Tryz.func142 (by kernel_rfl) rfl #[.int .i64 a0, .int .i64 146097] rfl (by (try simp only [List.map_toArray, List.map_cons, List.map_nil]); first | done | rfl | (simp only [List.length_drop, List.length_take]; rfl)) ?_; (with_reducible refine (computusref02_div.calls a0 146097 t396 _ A4.out).mono ?_); rintro e w' ⟨rfl, ⟨nd, rfl⟩⟩; refine ⟨_, rfl, ?_⟩) | ((with_reducible refine kI (f := 113) rfl ?_); refine kN (some 18) rfl rfl Tryz.func113 (by kernel_rfl) rfl #[.int .i64 a0, .int .i64 146097] rfl (by (try simp only [List.map_toArray, List.map_cons, List.map_nil]); first | done | rfl | (simp only [List.length_drop, List.length_take]; rfl)) ?_; (with_reducible refine (computusref02_mod.calls a0 146097 t397 _ A5.out).mono ?_); rintro e w' ⟨rfl, ⟨nd, rfl⟩⟩; refine ⟨_, rfl, ?_⟩))
    (try simp only [Act.put, List.setIfInBounds_toArray, List.set_cons_zero, List.set_cons_succ])
    go_cut [6, 7] (fun v6 v7 wc => ∃ (kq : Nat) (x6_5 : Int) (x7_5 : Int), v6 = .int .i64 x6_5 ∧ v7 = .int .i64 x7_5 ∧ Aside0 (computusref02_Date.j1 kq x6_5 x7_5 = some (r1, r2, r3, r4)) ∧ Aside0 (kq ≤ k) ∧ Drawn0 w wc)
    case first =>
      have H := HC6.out
      clear HC6
      have H' := Aside0.mk H
      clear H
      go_wp2
      go_loopg [6, 7] k (fun kq v6 v7 w' => ∃ (x6_1 : Int) (x7_1 : Int), v6 = .int .i64 x6_1 ∧ v7 = .int .i64 x7_1 ∧ Aside0 (computusref02_Date.l0 kq x6_1 x7_1 = some (r1, r2, r3, r4)) ∧ Aside0 (kq ≤ k) ∧ Drawn0 w w')
      case atStart => exact ⟨(wrap64 (2000 + (wrap64 (t396 * 400)))), (t397), (by first | rfl | (simp; done) | (simp [*]; done)), (by first | rfl | (simp; done) | (simp [*]; done)), H', ⟨Nat.le_refl _⟩, by repeat (first | exact Drawn0.refl _ | apply Drawn0.step)⟩
      case round =>
        clear H'
        try clear c1
        try clear p2
        try clear c3
        try clear p6
        obtain ⟨x6_1, x7_1, rfl, rfl, HA, HK1, ⟨m1, rfl⟩⟩ := hrel
        cases gk with
        | zero => exact absurd HA.out (by simp [computusref02_Date.l0])
        | succ k1 =>
          have H := HA.out
          clear HA
          simp only [computusref02_Date.l0] at H
          replace H := Option.bind_eq_some_iff.mp H
          obtain ⟨t398, A70, H⟩ := H
          replace H : (if t398 = true then (if x7_1 < 366 then (computusref02_Date.j1 k1 x6_1 x7_1) else (computusref02_Date.l0 k1 (wrap64 (x6_1 + 1)) (wrap64 (x7_1 - 366)))) else (if x7_1 < 365 then (computusref02_Date.j1 k1 x6_1 x7_1) else (computusref02_Date.l0 k1 (wrap64 (x6_1 + 1)) (wrap64 (x7_1 - 365))))) = some (r1, r2, r3, r4) := H
          have A7 := Aside0.mk A70
          clear A70
          by_cases c8 : t398 = true
          · subst c8
            have H1 : (if x7_1 < 366 then (computusref02_Date.j1 k1 x6_1 x7_1) else (computusref02_Date.l0 k1 (wrap64 (x6_1 + 1)) (wrap64 (x7_1 - 366)))) = some (r1, r2, r3, r4) := by rw [if_pos rfl] at H; exact H
            clear H
            have H := H1
            clear H1
            by_cases c9 : x7_1 < 366
            · rw [if_pos c9] at H
              have c9b0 : decide (x7_1 < 366) = true := decide_eq_true c9
              clear c9
              (first | rw [c9b0] | (simp only [kO, kP]; rw [c9b0]) | skip)
              have H' := Aside0.mk H
              clear H
              go_wp2_with (first | ((with_reducible refine kI (f := 143) rfl ?_); refine kN (some 20) rfl rfl Tryz.func143 (by kernel_rfl) rfl #[.int .i64 x6_1] rfl (by (try simp only [List.map_toArray, List.map_cons, List.map_nil]); first | done | rfl | (simp only [List.length_drop, List.length_take]; rfl)) ?_; (with_reducible refine (computusref02_Leap.calls x6_1 true _ A7.out).mono ?_); rintro e w' ⟨rfl, ⟨nd, rfl⟩⟩; refine ⟨_, rfl, ?_⟩))
              go_meet
              case rel => exact ⟨_, (x6_1), (x7_1), (by first | rfl | (simp; done) | (simp [*]; done)), (by first | rfl | (simp; done) | (simp [*]; done)), H', ⟨by have := HK1.out; first | omega | exact Nat.le_refl _⟩, by repeat (first | exact Drawn0.refl _ | apply Drawn0.step)⟩
            · rw [if_neg c9] at H
              have c9b0 : decide (x7_1 < 366) = false := decide_eq_false c9
              clear c9
              (first | rw [c9b0] | (simp only [kO, kP]; rw [c9b0]) | skip)
              have H' := Aside0.mk H
              clear H
              go_wp2_with (first | ((with_reducible refine kI (f := 143) rfl ?_); refine kN (some 20) rfl rfl Tryz.func143 (by kernel_rfl) rfl #[.int .i64 x6_1] rfl (by (try simp only [List.map_toArray, List.map_cons, List.map_nil]); first | done | rfl | (simp only [List.length_drop, List.length_take]; rfl)) ?_; (with_reducible refine (computusref02_Leap.calls x6_1 true _ A7.out).mono ?_); rintro e w' ⟨rfl, ⟨nd, rfl⟩⟩; refine ⟨_, rfl, ?_⟩))
              go_roundg k1
              case measure => have := HK1.out; omega
              case rel => exact ⟨(wrap64 (x6_1 + 1)), (wrap64 (x7_1 - 366)), (by first | rfl | (simp; done) | (simp [*]; done)), (by first | rfl | (simp; done) | (simp [*]; done)), H', ⟨by have := HK1.out; omega⟩, by repeat (first | exact Drawn0.refl _ | apply Drawn0.step)⟩
          · replace c8 := Bool.eq_false_iff.mpr c8
            subst c8
            have H1 : (if x7_1 < 365 then (computusref02_Date.j1 k1 x6_1 x7_1) else (computusref02_Date.l0 k1 (wrap64 (x6_1 + 1)) (wrap64 (x7_1 - 365)))) = some (r1, r2, r3, r4) := by rw [if_neg (show ¬ (false = true) by decide)] at H; exact H
            clear H
            have H := H1
            clear H1
            by_cases c10 : x7_1 < 365
            · rw [if_pos c10] at H
              have c10b0 : decide (x7_1 < 365) = true := decide_eq_true c10
              clear c10
              have H' := Aside0.mk H
              clear H
              go_wp2_with (first | ((with_reducible refine kI (f := 143) rfl ?_); refine kN (some 20) rfl rfl Tryz.func143 (by kernel_rfl) rfl #[.int .i64 x6_1] rfl (by (try simp only [List.map_toArray, List.map_cons, List.map_nil]); first | done | rfl | (simp only [List.length_drop, List.length_take]; rfl)) ?_; (with_reducible refine (computusref02_Leap.calls x6_1 false _ A7.out).mono ?_); rintro e w' ⟨rfl, ⟨nd, rfl⟩⟩; refine ⟨_, rfl, ?_⟩))
              go_meet
              case rel => exact ⟨_, (x6_1), (x7_1), (by first | rfl | (simp; done) | (simp [*]; done)), (by first | rfl | (simp; done) | (simp [*]; done)), H', ⟨by have := HK1.out; first | omega | exact Nat.le_refl _⟩, by repeat (first | exact Drawn0.refl _ | apply Drawn0.step)⟩
            · rw [if_neg c10] at H
              have c10b0 : decide (x7_1 < 365) = false := decide_eq_false c10
              clear c10
              have H' := Aside0.mk H
              clear H
              go_wp2_with (first | ((with_reducible refine kI (f := 143) rfl ?_); refine kN (some 20) rfl rfl Tryz.func143 (by kernel_rfl) rfl #[.int .i64 x6_1] rfl (by (try simp only [List.map_toArray, List.map_cons, List.map_nil]); first | done | rfl | (simp only [List.length_drop, List.length_take]; rfl)) ?_; (with_reducible refine (computusref02_Leap.calls x6_1 false _ A7.out).mono ?_); rintro e w' ⟨rfl, ⟨nd, rfl⟩⟩; refine ⟨_, rfl, ?_⟩))
              go_roundg k1
              case measure => have := HK1.out; omega
              case rel => exact ⟨(wrap64 (x6_1 + 1)), (wrap64 (x7_1 - 365)), (by first | rfl | (simp; done) | (simp [*]; done)), (by first | rfl | (simp; done) | (simp [*]; done)), H', ⟨by have := HK1.out; omega⟩, by repeat (first | exact Drawn0.refl _ | apply Drawn0.step)⟩
    case rest =>
      clear HC6
      try clear c1
      try clear p2
      try clear c3
      try clear p6
      try clear c8
      try clear c9
      try clear c9b0
      try clear c10
      try clear c10b0
      try clear p2
      try clear p6
      obtain ⟨kq, x6_5, x7_5, rfl, rfl, HA, HJ5, ⟨mc5, rfl⟩⟩ := hcut
      cases kq with
      | zero => exact absurd HA.out (by simp [computusref02_Date.j1])
      | succ kj5 =>
        have H := HA.out
        clear HA
        simp only [computusref02_Date.j1] at H
        have H' := Aside0.mk H
        clear H
        go_wp2
        go_loopg [7, 9] kj5 (fun kq v7 v9 w' => ∃ (x7_2 : Int) (x9_2 : Int), v7 = .int .i64 x7_2 ∧ v9 = .int .i64 x9_2 ∧ Aside0 (computusref02_Date.l1 kq x6_5 x7_2 x9_2 = some (r1, r2, r3, r4)) ∧ Aside0 (kq ≤ kj5) ∧ Drawn0 w w')
        case atStart => exact ⟨(x7_5), (1), (by first | rfl | (simp; done) | (simp [*]; done)), (by first | rfl | (simp; done) | (simp [*]; done)), H', ⟨Nat.le_refl _⟩, by repeat (first | exact Drawn0.refl _ | apply Drawn0.step)⟩
        case round =>
          clear H'
          try clear c1
          try clear p2
          try clear c3
          try clear c5
          try clear p6
          try clear c8
          try clear c9
          try clear c9b0
          try clear c10
          try clear c10b0
          try clear p2
          try clear p6
          obtain ⟨x7_2, x9_2, rfl, rfl, HA, HK2, ⟨m2, rfl⟩⟩ := hrel
          cases gk with
          | zero => exact absurd HA.out (by simp [computusref02_Date.l1])
          | succ k2 =>
            have H := HA.out
            clear HA
            simp only [computusref02_Date.l1] at H
            replace H := Option.bind_eq_some_iff.mp H
            obtain ⟨t399, A110, H⟩ := H
            replace H : (if x7_2 ≥ t399 then ((computusref02_Len.f k2 x6_5 x9_2).bind fun t400 => (computusref02_Date.l1 k2 x6_5 (wrap64 (x7_2 - t400)) (wrap64 (x9_2 + 1)))) else (some (x6_5, x9_2, wrap64 (x7_2 + 1), 0))) = some (r1, r2, r3, r4) := H
            have A11 := Aside0.mk A110
            clear A110
            by_cases c12 : x7_2 ≥ t399
            · rw [if_pos c12] at H
              have c12b0 : decide (t399 ≤ x7_2) = true := decide_eq_true c12
              clear c12
              replace H := Option.bind_eq_some_iff.mp H
              obtain ⟨t400, A130, H⟩ := H
              replace H : (computusref02_Date.l1 k2 x6_5 (wrap64 (x7_2 - t400)) (wrap64 (x9_2 + 1))) = some (r1, r2, r3, r4) := H
              have A13 := Aside0.mk A130
              clear A130
              have H' := Aside0.mk H
              clear H
              go_wp2_with (first | ((with_reducible refine kI (f := 144) rfl ?_); refine kN (some 32) rfl rfl Tryz.func144 (by kernel_rfl) rfl #[.int .i64 x6_5, .int .i64 x9_2] rfl (by (try simp only [List.map_toArray, List.map_cons, List.map_nil]); first | done | rfl | (simp only [List.length_drop, List.length_take]; rfl)) ?_; (with_reducible refine (computusref02_Len.calls k2 x6_5 x9_2 t399 _ A11.out).mono ?_); rintro e w' ⟨rfl, ⟨nd, rfl⟩⟩; refine ⟨_, rfl, ?_⟩) | ((with_reducible refine kI (f := 144) rfl ?_); refine kN (some 37) rfl rfl Tryz.func144 (by kernel_rfl) rfl #[.int .i64 x6_5, .int .i64 x9_2] rfl (by (try simp only [List.map_toArray, List.map_cons, List.map_nil]); first | done | rfl | (simp only [List.length_drop, List.length_take]; rfl)) ?_; (with_reducible refine (computusref02_Len.calls k2 x6_5 x9_2 t400 _ A13.out).mono ?_); rintro e w' ⟨rfl, ⟨nd, rfl⟩⟩; refine ⟨_, rfl, ?_⟩))
              go_roundg k2
              case measure => have := HJ5.out; have := HK2.out; omega
              case rel => exact ⟨(wrap64 (x7_2 - t400)), (wrap64 (x9_2 + 1)), (by first | rfl | (simp; done) | (simp [*]; done)), (by first | rfl | (simp; done) | (simp [*]; done)), H', ⟨by have := HJ5.out; have := HK2.out; omega⟩, by repeat (first | exact Drawn0.refl _ | apply Drawn0.step)⟩
            · rw [if_neg c12] at H
              have c12b0 : decide (t399 ≤ x7_2) = false := decide_eq_false c12
              clear c12
              simp only [Option.some.injEq, Prod.mk.injEq] at H
              obtain ⟨rfl, rfl, rfl, rfl⟩ := H
              go_wp2_with (first | ((with_reducible refine kI (f := 144) rfl ?_); refine kN (some 32) rfl rfl Tryz.func144 (by kernel_rfl) rfl #[.int .i64 x6_5, .int .i64 x9_2] rfl (by (try simp only [List.map_toArray, List.map_cons, List.map_nil]); first | done | rfl | (simp only [List.length_drop, List.length_take]; rfl)) ?_; (with_reducible refine (computusref02_Len.calls k2 x6_5 x9_2 t399 _ A11.out).mono ?_); rintro e w' ⟨rfl, ⟨nd, rfl⟩⟩; refine ⟨_, rfl, ?_⟩))
              refine bodyPost_ret (results_list (rs := [.tmp 2, .tmp 3, .tmp 4, .tmp 5]) rfl (by simp) (.tmp (.tmp (.tmp (.tmp .nil))))) rfl ?_
              exact ⟨by first | rfl | (simp; done) | (simp [*]; done), by repeat (first | exact Drawn0.refl _ | apply Drawn0.step)⟩
  · replace c3 := Bool.eq_false_iff.mpr c3
    subst c3
    have H1 : (some (0, 0, 0, 10)) = some (r1, r2, r3, r4) := by rw [if_neg (show ¬ (false = true) by decide)] at H; exact H
    clear H
    have H := H1
    clear H1
    simp only [Option.some.injEq, Prod.mk.injEq] at H
    obtain ⟨rfl, rfl, rfl, rfl⟩ := H
    go_enter Tryz.func100, Tryz.ntmps100
    go_wp2_with (first | ((with_reducible refine kI (f := 141) rfl ?_); refine kN (some 11) rfl rfl Tryz.func141 (by kernel_rfl) rfl #[.int .i64 a0] rfl (by (try simp only [List.map_toArray, List.map_cons, List.map_nil]); first | done | rfl | (simp only [List.length_drop, List.length_take]; rfl)) ?_; (with_reducible refine (computusref02_Can.calls k a0 false _ A2.out).mono ?_); rintro e w' ⟨rfl, ⟨nd, rfl⟩⟩; refine ⟨_, rfl, ?_⟩))
    refine bodyPost_ret (results_list (rs := [.tmp 2, .tmp 3, .tmp 4, .tmp 5]) rfl (by simp) (.tmp (.tmp (.tmp (.tmp .nil))))) rfl ?_
    exact ⟨by first | rfl | (simp; done) | (simp [*]; done), by repeat (first | exact Drawn0.refl _ | apply Drawn0.step)⟩
end Go.Proofs.YthkmckmfgglafaaGreat.P
namespace Go.Proofs.YthkmckmfgglafaaGreat.P
open Go.RowKit Go.Proofs.YthkmckmfgglafaaGreatW.PrintWords Go.Proofs.YthkmckmfgglafaaGreatW.PrintLast Go.Proofs.YthkmckmfgglafaaGreatW.PrintMore
open Go.Proofs.YthkmckmfgglafaaGreat.A
attribute [local go_sem] max2_int min2_int max_two min_two max_three min_three max_four min_four   -- for this text's walks alone
set_option linter.unusedVariables false
set_option linter.unusedSimpArgs false
def computusref15_inside.f (k : Nat) (a0 : Int) : Option (Bool) := (computusref02_Date.f k a0).bind fun bt401 => (if bt401.2.2.2 = 0 then (if bt401.1 ≥ (-4712) then (some (decide (bt401.1 ≤ 294276))) else (some false)) else (some false))
theorem computusref15_inside.mono : ∀ a0 k, LeO (computusref15_inside.f k a0) (computusref15_inside.f (k + 1) a0) := by
  intro a0 k
  unfold computusref15_inside.f
  repeat' first
      | (with_reducible exact computusref02_Date.mono _ _)
      | (with_reducible exact LeO.refl _)
      | (with_reducible exact LeO.none _)
      | (with_reducible refine LeO.ite ?_ ?_)
      | (with_reducible refine LeO.bind ?_ (fun _ => ?_))
      | exact computusref02_Date.mono _ _
      | exact LeO.none _
      | refine LeO.ite ?_ ?_
      | refine LeO.bind ?_ (fun _ => ?_)
set_option maxHeartbeats 8000000 in
set_option maxRecDepth 100000 in
theorem computusref15_inside.calls (k : Nat) (a0 : Int) (r : Bool) (w : World) (h : computusref15_inside.f k a0 = some r) :
    Calls Tryz.prog 49 #[.int .i64 a0] w fun e w' => e = .returned (.bool r) ∧ Drawn0 w w' := by
  have H : ((computusref02_Date.f k a0).bind fun bt401 => (if bt401.2.2.2 = 0 then (if bt401.1 ≥ (-4712) then (some (decide (bt401.1 ≤ 294276))) else (some false)) else (some false))) = some r := h
  clear h
  replace H := Option.bind_eq_some_iff.mp H
  obtain ⟨⟨t401, t402, t403, t404⟩, A20, H⟩ := H
  replace H : (if t404 = 0 then (if t401 ≥ (-4712) then (some (decide (t401 ≤ 294276))) else (some false)) else (some false)) = some r := H
  have A2 := Aside0.mk A20
  clear A20
  by_cases c3 : t404 = 0
  · rw [if_pos c3] at H
    have c3b0 : (t404 == 0) = true := beq_iff_eq.mpr c3
    have c3b1 : (t404 != 0) = false := bne_eq_false_iff_eq.mpr c3
    clear c3
    by_cases c4 : t401 ≥ (-4712)
    · rw [if_pos c4] at H
      have c4b0 : decide ((-4712) ≤ t401) = true := decide_eq_true c4
      clear c4
      obtain rfl := Option.some.inj H
      go_enter Tryz.func49, Tryz.ntmps49
      go_wp2_with (first | ((with_reducible refine kI (f := 100) rfl ?_); refine kN (some 9) rfl rfl Tryz.func100 (by kernel_rfl) rfl #[.int .i64 a0] rfl (by (try simp only [List.map_toArray, List.map_cons, List.map_nil]); first | done | rfl | (simp only [List.length_drop, List.length_take]; rfl)) ?_; (with_reducible refine (computusref02_Date.calls k a0 t401 t402 t403 t404 _ A2.out).mono ?_); rintro e w' ⟨rfl, ⟨nd, rfl⟩⟩; refine ⟨_, rfl, ?_⟩))
      go_ret
      exact ⟨by first | rfl | (simp; done) | (simp [*]; done), by repeat (first | exact Drawn0.refl _ | apply Drawn0.step)⟩
    · rw [if_neg c4] at H
      have c4b0 : decide ((-4712) ≤ t401) = false := decide_eq_false c4
      clear c4
      obtain rfl := Option.some.inj H
      go_enter Tryz.func49, Tryz.ntmps49
      go_wp2_with (first | ((with_reducible refine kI (f := 100) rfl ?_); refine kN (some 9) rfl rfl Tryz.func100 (by kernel_rfl) rfl #[.int .i64 a0] rfl (by (try simp only [List.map_toArray, List.map_cons, List.map_nil]); first | done | rfl | (simp only [List.length_drop, List.length_take]; rfl)) ?_; (with_reducible refine (computusref02_Date.calls k a0 t401 t402 t403 t404 _ A2.out).mono ?_); rintro e w' ⟨rfl, ⟨nd, rfl⟩⟩; refine ⟨_, rfl, ?_⟩))
      go_ret
      exact ⟨by first | rfl | (simp; done) | (simp [*]; done), by repeat (first | exact Drawn0.refl _ | apply Drawn0.step)⟩
  · rw [if_neg c3] at H
    have c3b0 : (t404 == 0) = false := beq_eq_false_iff_ne.mpr c3
    have c3b1 : (t404 != 0) = true := bne_iff_ne.mpr c3
    obtain rfl := Option.some.inj H
    go_enter Tryz.func49, Tryz.ntmps49
    go_wp2_with (first | ((with_reducible refine kI (f := 100) rfl ?_); refine kN (some 9) rfl rfl Tryz.func100 (by kernel_rfl) rfl #[.int .i64 a0] rfl (by (try simp only [List.map_toArray, List.map_cons, List.map_nil]); first | done | rfl | (simp only [List.length_drop, List.length_take]; rfl)) ?_; (with_reducible refine (computusref02_Date.calls k a0 t401 t402 t403 t404 _ A2.out).mono ?_); rintro e w' ⟨rfl, ⟨nd, rfl⟩⟩; refine ⟨_, rfl, ?_⟩))
    go_ret
    exact ⟨by first | rfl | (simp; done) | (simp [*]; done), by repeat (first | exact Drawn0.refl _ | apply Drawn0.step)⟩
end Go.Proofs.YthkmckmfgglafaaGreat.P
namespace Go.Proofs.YthkmckmfgglafaaGreat.P
open Go.RowKit Go.Proofs.YthkmckmfgglafaaGreatW.PrintWords Go.Proofs.YthkmckmfgglafaaGreatW.PrintLast Go.Proofs.YthkmckmfgglafaaGreatW.PrintMore
open Go.Proofs.YthkmckmfgglafaaGreat.A
attribute [local go_sem] max2_int min2_int max_two min_two max_three min_three max_four min_four   -- for this text's walks alone
set_option linter.unusedVariables false
set_option linter.unusedSimpArgs false
def computuslaw20_known.f : Option (Bool) := some true
theorem computuslaw20_known.calls (r : Bool) (w : World) (h : computuslaw20_known.f = some r) (hR : r = true) :
    Calls Tryz.prog 10 #[] w fun e w' => e = .returned (.bool r) ∧ Below w.heap.size w w' := by
  cases h
  exact A.known_calls w
noncomputable def computuslaw20_known.con : Con
  | [] => some (decide (computuslaw20_known.f = some true), .bool true)
  | _ => none
set_option maxRecDepth 100000 in
theorem computuslaw20_known.cok : COk Tryz.prog 10 (computuslaw20_known.con) := by
  intro args p v hc hp w A hA
  unfold computuslaw20_known.con at hc
  split at hc
  · simp only [Option.some.injEq, Prod.mk.injEq] at hc
    obtain ⟨rfl, rfl⟩ := hc
    have hf := of_decide_eq_true hp
    obtain rfl : A = [] := by simpa [rl_cons, rl_nil, rv_int, rv_bool, rv_str, rv_agg, rv_fn] using hA
    exact gives_of_calls (fn := Tryz.f10) Tryz.func10 (by kernel_rfl) (by kernel_rfl) (computuslaw20_known.calls  _ w hf rfl) (fun _ => by simp [gd_some, rl_cons, rl_nil, rv_int, rv_bool, rv_str, rv_agg, rv_tup]) (fun _ h => h)
  · cases hc
end Go.Proofs.YthkmckmfgglafaaGreat.P
namespace Go.Proofs.YthkmckmfgglafaaGreat.P
open Go.RowKit Go.Proofs.YthkmckmfgglafaaGreatW.PrintWords Go.Proofs.YthkmckmfgglafaaGreatW.PrintLast Go.Proofs.YthkmckmfgglafaaGreatW.PrintMore
open Go.Proofs.YthkmckmfgglafaaGreat.A
attribute [local go_sem] max2_int min2_int max_two min_two max_three min_three max_four min_four   -- for this text's walks alone
set_option linter.unusedVariables false
set_option linter.unusedSimpArgs false
def cmp_Or_int.l0 : Nat → Int → List Int → Int → Int → Option (Int)
  | 0, _, _, _, _ => none
  | k + 1, x3, x6, x7, x8 => if x8 < x7 then (if 0 ≤ x8 then (if x8 < (x6.length : Int) then (if (rd x6 x8) = x3 then (cmp_Or_int.l0 k x3 x6 x7 (wrap64 (x8 + 1))) else (some (rd x6 x8))) else (none)) else (none)) else (some x3)
def cmp_Or_int.f (k : Nat) (l0 : List Int) : Option (Int) := cmp_Or_int.l0 k 0 l0 (l0.length : Int) 0
theorem cmp_Or_int.mono_l : ∀ k, (∀ y0 y1 y2 y3, LeO (cmp_Or_int.l0 k y0 y1 y2 y3) (cmp_Or_int.l0 (k + 1) y0 y1 y2 y3))
  | 0 => fun _ _ _ _ r h => by simp [cmp_Or_int.l0] at h
  | k + 1 => by
    have ih0 := cmp_Or_int.mono_l k
    · intro y0 y1 y2 y3
      unfold cmp_Or_int.l0
      repeat' first
      | (with_reducible exact ih0 _ _ _ _)
      | (with_reducible exact LeO.refl _)
      | (with_reducible exact LeO.none _)
      | (with_reducible refine LeO.ite ?_ ?_)
      | (with_reducible refine LeO.bind ?_ (fun _ => ?_))
      | exact ih0 _ _ _ _
      | exact LeO.none _
      | refine LeO.ite ?_ ?_
      | refine LeO.bind ?_ (fun _ => ?_)
theorem cmp_Or_int.mono : ∀ a0 k, LeO (cmp_Or_int.f k a0) (cmp_Or_int.f (k + 1) a0) := by
  intro a0 k
  have ih0 := cmp_Or_int.mono_l k
  unfold cmp_Or_int.f
  repeat' first
      | (with_reducible exact ih0 _ _ _ _)
      | (with_reducible exact LeO.refl _)
      | (with_reducible exact LeO.none _)
      | (with_reducible refine LeO.ite ?_ ?_)
      | (with_reducible refine LeO.bind ?_ (fun _ => ?_))
      | exact ih0 _ _ _ _
      | exact LeO.none _
      | refine LeO.ite ?_ ?_
      | refine LeO.bind ?_ (fun _ => ?_)
set_option maxHeartbeats 8000000 in
set_option maxRecDepth 100000 in
theorem cmp_Or_int.calls (k : Nat) (A0 : Option Addr) (c0 : Nat) (l0 : List Int) (r : Int) (w : World) (hr0 : Kd.C (Kd.int .i64) w A0 l0.length l0) (hc0 : l0.length ≤ c0) (h : cmp_Or_int.f k l0 = some r) :
    Calls Tryz.prog 124 #[.slice A0 l0.length c0] w fun e w' => e = .returned (.int .i64 r) ∧ Drawn0 w w' := by
  have HR0 := Aside0.mk hr0
  have HC0 := Aside0.mk hc0
  clear hr0 hc0
  have H : (cmp_Or_int.l0 k 0 l0 (l0.length : Int) 0) = some r := h
  clear h
  have H' := Aside0.mk H
  clear H
  go_enter Tryz.func124, Tryz.ntmps124
  go_wp2
  go_loopg [8] k (fun kq v8 w' => ∃ (x8_1 : Int), v8 = .int .i64 x8_1 ∧ Aside0 (cmp_Or_int.l0 kq 0 l0 (l0.length : Int) x8_1 = some r) ∧ Aside0 (kq ≤ k) ∧ Drawn0 w w')
  case atStart => exact ⟨(0), (by first | rfl | (simp; done) | (simp [*]; done)), H', ⟨Nat.le_refl _⟩, by repeat (first | exact Drawn0.refl _ | apply Drawn0.step)⟩
  case round =>
    clear H'
    try clear c1
    obtain ⟨x8_1, rfl, HA, HK1, ⟨m1, rfl⟩⟩ := hrel
    cases gk with
    | zero => exact absurd HA.out (by simp [cmp_Or_int.l0])
    | succ k1 =>
      have H := HA.out
      clear HA
      simp only [cmp_Or_int.l0] at H
      by_cases c2 : x8_1 < (l0.length : Int)
      · rw [if_pos c2] at H
        have c2b0 : decide (x8_1 < (l0.length : Int)) = true := decide_eq_true c2
        clear c2
        by_cases c3 : 0 ≤ x8_1
        · rw [if_pos c3] at H
          have c3b0 : decide (0 ≤ x8_1) = true := decide_eq_true c3
          clear c3
          by_cases c4 : x8_1 < (l0.length : Int)
          · rw [if_pos c4] at H
            have c4b0 : decide (x8_1 < (l0.length : Int)) = true := decide_eq_true c4
            clear c4
            by_cases c5 : (rd l0 x8_1) = 0
            · rw [if_pos c5] at H
              have c5b0 : ((rd l0 x8_1) == 0) = true := beq_iff_eq.mpr c5
              have c5b1 : ((rd l0 x8_1) != 0) = false := bne_eq_false_iff_eq.mpr c5
              clear c5
              have H' := Aside0.mk H
              clear H
              have p1036 : 0 ≤ (x8_1 : Int) := of_decide_eq_true (by first | (with_reducible assumption) | assumption)
              have q1036 : x8_1 < (l0.length : Int) := of_decide_eq_true (by first | (with_reducible assumption) | assumption)
              obtain ⟨ad1036, e1036, hx1036_0⟩ := Kd.at_int HR0.out x8_1 p1036 q1036
              cases e1036
              replace p1036 := eq_true p1036
              replace q1036 := eq_true q1036
              go_wp2
              go_roundg k1
              case measure => have := HK1.out; omega
              case rel => exact ⟨(wrap64 (x8_1 + 1)), (by first | rfl | (simp; done) | (simp [*]; done)), H', ⟨by have := HK1.out; omega⟩, by repeat (first | exact Drawn0.refl _ | apply Drawn0.step)⟩
            · rw [if_neg c5] at H
              have c5b0 : ((rd l0 x8_1) == 0) = false := beq_eq_false_iff_ne.mpr c5
              have c5b1 : ((rd l0 x8_1) != 0) = true := bne_iff_ne.mpr c5
              obtain rfl := Option.some.inj H
              have p1036 : 0 ≤ (x8_1 : Int) := of_decide_eq_true (by first | (with_reducible assumption) | assumption)
              have q1036 : x8_1 < (l0.length : Int) := of_decide_eq_true (by first | (with_reducible assumption) | assumption)
              obtain ⟨ad1036, e1036, hx1036_0⟩ := Kd.at_int HR0.out x8_1 p1036 q1036
              cases e1036
              replace p1036 := eq_true p1036
              replace q1036 := eq_true q1036
              go_wp2
              go_ret
              exact ⟨by first | rfl | (simp; done) | (simp [*]; done), by repeat (first | exact Drawn0.refl _ | apply Drawn0.step)⟩
          · rw [if_neg c4] at H
            exact absurd H (by simp)
        · rw [if_neg c3] at H
          exact absurd H (by simp)
      · rw [if_neg c2] at H
        have c2b0 : decide (x8_1 < (l0.length : Int)) = false := decide_eq_false c2
        clear c2
        obtain rfl := Option.some.inj H
        go_wp2
        go_ret
        exact ⟨by first | rfl | (simp; done) | (simp [*]; done), by repeat (first | exact Drawn0.refl _ | apply Drawn0.step)⟩
def cmp_isNaN_int.f (a0 : Int) : Option (Bool) := some (a0 != a0)
set_option maxHeartbeats 8000000 in
set_option maxRecDepth 100000 in
theorem cmp_isNaN_int.calls (a0 : Int) (r : Bool) (w : World) (h : cmp_isNaN_int.f a0 = some r) :
    Calls Tryz.prog 172 #[.int .i64 a0] w fun e w' => e = .returned (.bool r) ∧ Drawn0 w w' := by
  have H : (some (a0 != a0)) = some r := h
  clear h
  obtain rfl := Option.some.inj H
  go_enter Tryz.func172, Tryz.ntmps172
  go_wp2
  go_ret
  exact ⟨by first | rfl | (simp; done) | (simp [*]; done), by repeat (first | exact Drawn0.refl _ | apply Drawn0.step)⟩
def cmp_Compare_int.f (a0 : Int) (a1 : Int) : Option (Int) := (cmp_isNaN_int.f a0).bind fun t1037 => ((cmp_isNaN_int.f a1).bind fun t1038 => (if t1037 = true then (if t1038 = true then (some 0) else (some (-1))) else (if t1038 = true then (some 1) else (if a0 < a1 then (some (-1)) else (if a0 > a1 then (some 1) else (some 0))))))
set_option maxHeartbeats 8000000 in
set_option maxRecDepth 100000 in
theorem cmp_Compare_int.calls (a0 : Int) (a1 : Int) (r : Int) (w : World) (h : cmp_Compare_int.f a0 a1 = some r) :
    Calls Tryz.prog 125 #[.int .i64 a0, .int .i64 a1] w fun e w' => e = .returned (.int .i64 r) ∧ Drawn0 w w' := by
  have H : ((cmp_isNaN_int.f a0).bind fun t1037 => ((cmp_isNaN_int.f a1).bind fun t1038 => (if t1037 = true then (if t1038 = true then (some 0) else (some (-1))) else (if t1038 = true then (some 1) else (if a0 < a1 then (some (-1)) else (if a0 > a1 then (some 1) else (some 0))))))) = some r := h
  clear h
  replace H := Option.bind_eq_some_iff.mp H
  obtain ⟨t1037, A30, H⟩ := H
  replace H : ((cmp_isNaN_int.f a1).bind fun t1038 => (if t1037 = true then (if t1038 = true then (some 0) else (some (-1))) else (if t1038 = true then (some 1) else (if a0 < a1 then (some (-1)) else (if a0 > a1 then (some 1) else (some 0)))))) = some r := H
  have A3 := Aside0.mk A30
  clear A30
  replace H := Option.bind_eq_some_iff.mp H
  obtain ⟨t1038, A40, H⟩ := H
  replace H : (if t1037 = true then (if t1038 = true then (some 0) else (some (-1))) else (if t1038 = true then (some 1) else (if a0 < a1 then (some (-1)) else (if a0 > a1 then (some 1) else (some 0))))) = some r := H
  have A4 := Aside0.mk A40
  clear A40
  by_cases c5 : t1037 = true
  · subst c5
    have H1 : (if t1038 = true then (some 0) else (some (-1))) = some r := by rw [if_pos rfl] at H; exact H
    clear H
    have H := H1
    clear H1
    by_cases c6 : t1038 = true
    · subst c6
      have H1 : (some 0) = some r := by rw [if_pos rfl] at H; exact H
      clear H
      have H := H1
      clear H1
      obtain rfl := Option.some.inj H
      go_enter Tryz.func125, Tryz.ntmps125
      go_wp2_with (first | ((with_reducible refine kI (f := 172) rfl ?_); refine kN (some 8) rfl rfl Tryz.func172 (by kernel_rfl) rfl #[.int .i64 a0] rfl (by (try simp only [List.map_toArray, List.map_cons, List.map_nil]); first | done | rfl | (simp only [List.length_drop, List.length_take]; rfl)) ?_; (with_reducible refine (cmp_isNaN_int.calls a0 true _ A3.out).mono ?_); rintro e w' ⟨rfl, ⟨nd, rfl⟩⟩; refine ⟨_, rfl, ?_⟩) | ((with_reducible refine kI (f := 172) rfl ?_); refine kN (some 10) rfl rfl Tryz.func172 (by kernel_rfl) rfl #[.int .i64 a1] rfl (by (try simp only [List.map_toArray, List.map_cons, List.map_nil]); first | done | rfl | (simp only [List.length_drop, List.length_take]; rfl)) ?_; (with_reducible refine (cmp_isNaN_int.calls a1 true _ A4.out).mono ?_); rintro e w' ⟨rfl, ⟨nd, rfl⟩⟩; refine ⟨_, rfl, ?_⟩))
      go_ret
      exact ⟨by first | rfl | (simp; done) | (simp [*]; done), by repeat (first | exact Drawn0.refl _ | apply Drawn0.step)⟩
    · replace c6 := Bool.eq_false_iff.mpr c6
      subst c6
      have H1 : (some (-1)) = some r := by rw [if_neg (show ¬ (false = true) by decide)] at H; exact H
      clear H
      have H := H1
      clear H1
      obtain rfl := Option.some.inj H
      go_enter Tryz.func125, Tryz.ntmps125
      go_wp2_with (first | ((with_reducible refine kI (f := 172) rfl ?_); refine kN (some 8) rfl rfl Tryz.func172 (by kernel_rfl) rfl #[.int .i64 a0] rfl (by (try simp only [List.map_toArray, List.map_cons, List.map_nil]); first | done | rfl | (simp only [List.length_drop, List.length_take]; rfl)) ?_; (with_reducible refine (cmp_isNaN_int.calls a0 true _ A3.out).mono ?_); rintro e w' ⟨rfl, ⟨nd, rfl⟩⟩; refine ⟨_, rfl, ?_⟩) | ((with_reducible refine kI (f := 172) rfl ?_); refine kN (some 10) rfl rfl Tryz.func172 (by kernel_rfl) rfl #[.int .i64 a1] rfl (by (try simp only [List.map_toArray, List.map_cons, List.map_nil]); first | done | rfl | (simp only [List.length_drop, List.length_take]; rfl)) ?_; (with_reducible refine (cmp_isNaN_int.calls a1 false _ A4.out).mono ?_); rintro e w' ⟨rfl, ⟨nd, rfl⟩⟩; refine ⟨_, rfl, ?_⟩))
      go_ret
      exact ⟨by first | rfl | (simp; done) | (simp [*]; done), by repeat (first | exact Drawn0.refl _ | apply Drawn0.step)⟩
  · replace c5 := Bool.eq_false_iff.mpr c5
    subst c5
    have H1 : (if t1038 = true then (some 1) else (if a0 < a1 then (some (-1)) else (if a0 > a1 then (some 1) else (some 0)))) = some r := by rw [if_neg (show ¬ (false = true) by decide)] at H; exact H
    clear H
    have H := H1
    clear H1
    by_cases c7 : t1038 = true
    · subst c7
      have H1 : (some 1) = some r := by rw [if_pos rfl] at H; exact H
      clear H
      have H := H1
      clear H1
      obtain rfl := Option.some.inj H
      go_enter Tryz.func125, Tryz.ntmps125
      go_wp2_with (first | ((with_reducible refine kI (f := 172) rfl ?_); refine kN (some 8) rfl rfl Tryz.func172 (by kernel_rfl) rfl #[.int .i64 a0] rfl (by (try simp only [List.map_toArray, List.map_cons, List.map_nil]); first | done | rfl | (simp only [List.length_drop, List.length_take]; rfl)) ?_; (with_reducible refine (cmp_isNaN_int.calls a0 false _ A3.out).mono ?_); rintro e w' ⟨rfl, ⟨nd, rfl⟩⟩; refine ⟨_, rfl, ?_⟩) | ((with_reducible refine kI (f := 172) rfl ?_); refine kN (some 10) rfl rfl Tryz.func172 (by kernel_rfl) rfl #[.int .i64 a1] rfl (by (try simp only [List.map_toArray, List.map_cons, List.map_nil]); first | done | rfl | (simp only [List.length_drop, List.length_take]; rfl)) ?_; (with_reducible refine (cmp_isNaN_int.calls a1 true _ A4.out).mono ?_); rintro e w' ⟨rfl, ⟨nd, rfl⟩⟩; refine ⟨_, rfl, ?_⟩))
      go_ret
      exact ⟨by first | rfl | (simp; done) | (simp [*]; done), by repeat (first | exact Drawn0.refl _ | apply Drawn0.step)⟩
    · replace c7 := Bool.eq_false_iff.mpr c7
      subst c7
      have H1 : (if a0 < a1 then (some (-1)) else (if a0 > a1 then (some 1) else (some 0))) = some r := by rw [if_neg (show ¬ (false = true) by decide)] at H; exact H
      clear H
      have H := H1
      clear H1
      by_cases c8 : a0 < a1
      · rw [if_pos c8] at H
        have c8b0 : decide (a0 < a1) = true := decide_eq_true c8
        clear c8
        obtain rfl := Option.some.inj H
        go_enter Tryz.func125, Tryz.ntmps125
        go_wp2_with (first | ((with_reducible refine kI (f := 172) rfl ?_); refine kN (some 8) rfl rfl Tryz.func172 (by kernel_rfl) rfl #[.int .i64 a0] rfl (by (try simp only [List.map_toArray, List.map_cons, List.map_nil]); first | done | rfl | (simp only [List.length_drop, List.length_take]; rfl)) ?_; (with_reducible refine (cmp_isNaN_int.calls a0 false _ A3.out).mono ?_); rintro e w' ⟨rfl, ⟨nd, rfl⟩⟩; refine ⟨_, rfl, ?_⟩) | ((with_reducible refine kI (f := 172) rfl ?_); refine kN (some 10) rfl rfl Tryz.func172 (by kernel_rfl) rfl #[.int .i64 a1] rfl (by (try simp only [List.map_toArray, List.map_cons, List.map_nil]); first | done | rfl | (simp only [List.length_drop, List.length_take]; rfl)) ?_; (with_reducible refine (cmp_isNaN_int.calls a1 false _ A4.out).mono ?_); rintro e w' ⟨rfl, ⟨nd, rfl⟩⟩; refine ⟨_, rfl, ?_⟩))
        go_ret
        exact ⟨by first | rfl | (simp; done) | (simp [*]; done), by repeat (first | exact Drawn0.refl _ | apply Drawn0.step)⟩
      · rw [if_neg c8] at H
        have c8b0 : decide (a0 < a1) = false := decide_eq_false c8
        clear c8
        by_cases c9 : a0 > a1
        · rw [if_pos c9] at H
          have c9b0 : decide (a1 < a0) = true := decide_eq_true c9
          clear c9
          obtain rfl := Option.some.inj H
          go_enter Tryz.func125, Tryz.ntmps125
          go_wp2_with (first | ((with_reducible refine kI (f := 172) rfl ?_); refine kN (some 8) rfl rfl Tryz.func172 (by kernel_rfl) rfl #[.int .i64 a0] rfl (by (try simp only [List.map_toArray, List.map_cons, List.map_nil]); first | done | rfl | (simp only [List.length_drop, List.length_take]; rfl)) ?_; (with_reducible refine (cmp_isNaN_int.calls a0 false _ A3.out).mono ?_); rintro e w' ⟨rfl, ⟨nd, rfl⟩⟩; refine ⟨_, rfl, ?_⟩) | ((with_reducible refine kI (f := 172) rfl ?_); refine kN (some 10) rfl rfl Tryz.func172 (by kernel_rfl) rfl #[.int .i64 a1] rfl (by (try simp only [List.map_toArray, List.map_cons, List.map_nil]); first | done | rfl | (simp only [List.length_drop, List.length_take]; rfl)) ?_; (with_reducible refine (cmp_isNaN_int.calls a1 false _ A4.out).mono ?_); rintro e w' ⟨rfl, ⟨nd, rfl⟩⟩; refine ⟨_, rfl, ?_⟩))
          go_ret
          exact ⟨by first | rfl | (simp; done) | (simp [*]; done), by repeat (first | exact Drawn0.refl _ | apply Drawn0.step)⟩
        · rw [if_neg c9] at H
          have c9b0 : decide (a1 < a0) = false := decide_eq_false c9
          clear c9
          obtain rfl := Option.some.inj H
          go_enter Tryz.func125, Tryz.ntmps125
          go_wp2_with (first | ((with_reducible refine kI (f := 172) rfl ?_); refine kN (some 8) rfl rfl Tryz.func172 (by kernel_rfl) rfl #[.int .i64 a0] rfl (by (try simp only [List.map_toArray, List.map_cons, List.map_nil]); first | done | rfl | (simp only [List.length_drop, List.length_take]; rfl)) ?_; (with_reducible refine (cmp_isNaN_int.calls a0 false _ A3.out).mono ?_); rintro e w' ⟨rfl, ⟨nd, rfl⟩⟩; refine ⟨_, rfl, ?_⟩) | ((with_reducible refine kI (f := 172) rfl ?_); refine kN (some 10) rfl rfl Tryz.func172 (by kernel_rfl) rfl #[.int .i64 a1] rfl (by (try simp only [List.map_toArray, List.map_cons, List.map_nil]); first | done | rfl | (simp only [List.length_drop, List.length_take]; rfl)) ?_; (with_reducible refine (cmp_isNaN_int.calls a1 false _ A4.out).mono ?_); rintro e w' ⟨rfl, ⟨nd, rfl⟩⟩; refine ⟨_, rfl, ?_⟩))
          go_ret
          exact ⟨by first | rfl | (simp; done) | (simp [*]; done), by repeat (first | exact Drawn0.refl _ | apply Drawn0.step)⟩
def cmp_isNaN_int64.f (a0 : Int) : Option (Bool) := some (a0 != a0)
set_option maxHeartbeats 8000000 in
set_option maxRecDepth 100000 in
theorem cmp_isNaN_int64.calls (a0 : Int) (r : Bool) (w : World) (h : cmp_isNaN_int64.f a0 = some r) :
    Calls Tryz.prog 173 #[.int .i64 a0] w fun e w' => e = .returned (.bool r) ∧ Drawn0 w w' := by
  have H : (some (a0 != a0)) = some r := h
  clear h
  obtain rfl := Option.some.inj H
  go_enter Tryz.func173, Tryz.ntmps173
  go_wp2
  go_ret
  exact ⟨by first | rfl | (simp; done) | (simp [*]; done), by repeat (first | exact Drawn0.refl _ | apply Drawn0.step)⟩
end Go.Proofs.YthkmckmfgglafaaGreat.P
namespace Go.Proofs.YthkmckmfgglafaaGreat.P
open Go.RowKit Go.Proofs.YthkmckmfgglafaaGreatW.PrintWords Go.Proofs.YthkmckmfgglafaaGreatW.PrintLast Go.Proofs.YthkmckmfgglafaaGreatW.PrintMore
open Go.Proofs.YthkmckmfgglafaaGreat.A
attribute [local go_sem] max2_int min2_int max_two min_two max_three min_three max_four min_four   -- for this text's walks alone
set_option linter.unusedVariables false
set_option linter.unusedSimpArgs false
def cmp_Compare_int64.f (a0 : Int) (a1 : Int) : Option (Int) := (cmp_isNaN_int64.f a0).bind fun t1039 => ((cmp_isNaN_int64.f a1).bind fun t1040 => (if t1039 = true then (if t1040 = true then (some 0) else (some (-1))) else (if t1040 = true then (some 1) else (if a0 < a1 then (some (-1)) else (if a0 > a1 then (some 1) else (some 0))))))
set_option maxHeartbeats 8000000 in
set_option maxRecDepth 100000 in
theorem cmp_Compare_int64.calls (a0 : Int) (a1 : Int) (r : Int) (w : World) (h : cmp_Compare_int64.f a0 a1 = some r) :
    Calls Tryz.prog 126 #[.int .i64 a0, .int .i64 a1] w fun e w' => e = .returned (.int .i64 r) ∧ Drawn0 w w' := by
  have H : ((cmp_isNaN_int64.f a0).bind fun t1039 => ((cmp_isNaN_int64.f a1).bind fun t1040 => (if t1039 = true then (if t1040 = true then (some 0) else (some (-1))) else (if t1040 = true then (some 1) else (if a0 < a1 then (some (-1)) else (if a0 > a1 then (some 1) else (some 0))))))) = some r := h
  clear h
  replace H := Option.bind_eq_some_iff.mp H
  obtain ⟨t1039, A30, H⟩ := H
  replace H : ((cmp_isNaN_int64.f a1).bind fun t1040 => (if t1039 = true then (if t1040 = true then (some 0) else (some (-1))) else (if t1040 = true then (some 1) else (if a0 < a1 then (some (-1)) else (if a0 > a1 then (some 1) else (some 0)))))) = some r := H
  have A3 := Aside0.mk A30
  clear A30
  replace H := Option.bind_eq_some_iff.mp H
  obtain ⟨t1040, A40, H⟩ := H
  replace H : (if t1039 = true then (if t1040 = true then (some 0) else (some (-1))) else (if t1040 = true then (some 1) else (if a0 < a1 then (some (-1)) else (if a0 > a1 then (some 1) else (some 0))))) = some r := H
  have A4 := Aside0.mk A40
  clear A40
  by_cases c5 : t1039 = true
  · subst c5
    have H1 : (if t1040 = true then (some 0) else (some (-1))) = some r := by rw [if_pos rfl] at H; exact H
    clear H
    have H := H1
    clear H1
    by_cases c6 : t1040 = true
    · subst c6
      have H1 : (some 0) = some r := by rw [if_pos rfl] at H; exact H
      clear H
      have H := H1
      clear H1
      obtain rfl := Option.some.inj H
      go_enter Tryz.func126, Tryz.ntmps126
      go_wp2_with (first | ((with_reducible refine kI (f := 173) rfl ?_); refine kN (some 8) rfl rfl Tryz.func173 (by kernel_rfl) rfl #[.int .i64 a0] rfl (by (try simp only [List.map_toArray, List.map_cons, List.map_nil]); first | done | rfl | (simp only [List.length_drop, List.length_take]; rfl)) ?_; (with_reducible refine (cmp_isNaN_int64.calls a0 true _ A3.out).mono ?_); rintro e w' ⟨rfl, ⟨nd, rfl⟩⟩; refine ⟨_, rfl, ?_⟩) | ((with_reducible refine kI (f := 173) rfl ?_); refine kN (some 10) rfl rfl Tryz.func173 (by kernel_rfl) rfl #[.int .i64 a1] rfl (by (try simp only [List.map_toArray, List.map_cons, List.map_nil]); first | done | rfl | (simp only [List.length_drop, List.length_take]; rfl)) ?_; (with_reducible refine (cmp_isNaN_int64.calls a1 true _ A4.out).mono ?_); rintro e w' ⟨rfl, ⟨nd, rfl⟩⟩; refine ⟨_, rfl, ?_⟩))
      go_ret
      exact ⟨by first | rfl | (simp; done) | (simp [*]; done), by repeat (first | exact Drawn0.refl _ | apply Drawn0.step)⟩
    · replace c6 := Bool.eq_false_iff.mpr c6
      subst c6
      have H1 : (some (-1)) = some r := by rw [if_neg (show ¬ (false = true) by decide)] at H; exact H
      clear H
      have H := H1
      clear H1
      obtain rfl := Option.some.inj H
      go_enter Tryz.func126, Tryz.ntmps126
      go_wp2_with (first | ((with_reducible refine kI (f := 173) rfl ?_); refine kN (some 8) rfl rfl Tryz.func173 (by kernel_rfl) rfl #[.int .i64 a0] rfl (by (try simp only [List.map_toArray, List.map_cons, List.map_nil]); first | done | rfl | (simp only [List.length_drop, List.length_take]; rfl)) ?_; (with_reducible refine (cmp_isNaN_int64.calls a0 true _ A3.out).mono ?_); rintro e w' ⟨rfl, ⟨nd, rfl⟩⟩; refine ⟨_, rfl, ?_⟩) | ((with_reducible refine kI (f := 173) rfl ?_); refine kN (some 10) rfl rfl Tryz.func173 (by kernel_rfl) rfl #[.int .i64 a1] rfl (by (try simp only [List.map_toArray, List.map_cons, List.map_nil]); first | done | rfl | (simp only [List.length_drop, List.length_take]; rfl)) ?_; (with_reducible refine (cmp_isNaN_int64.calls a1 false _ A4.out).mono ?_); rintro e w' ⟨rfl, ⟨nd, rfl⟩⟩; refine ⟨_, rfl, ?_⟩))
      go_ret
      exact ⟨by first | rfl | (simp; done) | (simp [*]; done), by repeat (first | exact Drawn0.refl _ | apply Drawn0.step)⟩
  · replace c5 := Bool.eq_false_iff.mpr c5
    subst c5
    have H1 : (if t1040 = true then (some 1) else (if a0 < a1 then (some (-1)) else (if a0 > a1 then (some 1) else (some 0)))) = some r := by rw [if_neg (show ¬ (false = true) by decide)] at H; exact H
    clear H
    have H := H1
    clear H1
    by_cases c7 : t1040 = true
    · subst c7
      have H1 : (some 1) = some r := by rw [if_pos rfl] at H; exact H
      clear H
      have H := H1
      clear H1
      obtain rfl := Option.some.inj H
      go_enter Tryz.func126, Tryz.ntmps126
      go_wp2_with (first | ((with_reducible refine kI (f := 173) rfl ?_); refine kN (some 8) rfl rfl Tryz.func173 (by kernel_rfl) rfl #[.int .i64 a0] rfl (by (try simp only [List.map_toArray, List.map_cons, List.map_nil]); first | done | rfl | (simp only [List.length_drop, List.length_take]; rfl)) ?_; (with_reducible refine (cmp_isNaN_int64.calls a0 false _ A3.out).mono ?_); rintro e w' ⟨rfl, ⟨nd, rfl⟩⟩; refine ⟨_, rfl, ?_⟩) | ((with_reducible refine kI (f := 173) rfl ?_); refine kN (some 10) rfl rfl Tryz.func173 (by kernel_rfl) rfl #[.int .i64 a1] rfl (by (try simp only [List.map_toArray, List.map_cons, List.map_nil]); first | done | rfl | (simp only [List.length_drop, List.length_take]; rfl)) ?_; (with_reducible refine (cmp_isNaN_int64.calls a1 true _ A4.out).mono ?_); rintro e w' ⟨rfl, ⟨nd, rfl⟩⟩; refine ⟨_, rfl, ?_⟩))
      go_ret
      exact ⟨by first | rfl | (simp; done) | (simp [*]; done), by repeat (first | exact Drawn0.refl _ | apply Drawn0.step)⟩
    · replace c7 := Bool.eq_false_iff.mpr c7
      subst c7
      have H1 : (if a0 < a1 then (some (-1)) else (if a0 > a1 then (some 1) else (some 0))) = some r := by rw [if_neg (show ¬ (false = true) by decide)] at H; exact H
      clear H
      have H := H1
      clear H1
      by_cases c8 : a0 < a1
      · rw [if_pos c8] at H
        have c8b0 : decide (a0 < a1) = true := decide_eq_true c8
        clear c8
        obtain rfl := Option.some.inj H
        go_enter Tryz.func126, Tryz.ntmps126
        go_wp2_with (first | ((with_reducible refine kI (f := 173) rfl ?_); refine kN (some 8) rfl rfl Tryz.func173 (by kernel_rfl) rfl #[.int .i64 a0] rfl (by (try simp only [List.map_toArray, List.map_cons, List.map_nil]); first | done | rfl | (simp only [List.length_drop, List.length_take]; rfl)) ?_; (with_reducible refine (cmp_isNaN_int64.calls a0 false _ A3.out).mono ?_); rintro e w' ⟨rfl, ⟨nd, rfl⟩⟩; refine ⟨_, rfl, ?_⟩) | ((with_reducible refine kI (f := 173) rfl ?_); refine kN (some 10) rfl rfl Tryz.func173 (by kernel_rfl) rfl #[.int .i64 a1] rfl (by (try simp only [List.map_toArray, List.map_cons, List.map_nil]); first | done | rfl | (simp only [List.length_drop, List.length_take]; rfl)) ?_; (with_reducible refine (cmp_isNaN_int64.calls a1 false _ A4.out).mono ?_); rintro e w' ⟨rfl, ⟨nd, rfl⟩⟩; refine ⟨_, rfl, ?_⟩))
        go_ret
        exact ⟨by first | rfl | (simp; done) | (simp [*]; done), by repeat (first | exact Drawn0.refl _ | apply Drawn0.step)⟩
      · rw [if_neg c8] at H
        have c8b0 : decide (a0 < a1) = false := decide_eq_false c8
        clear c8
        by_cases c9 : a0 > a1
        · rw [if_pos c9] at H
          have c9b0 : decide (a1 < a0) = true := decide_eq_true c9
          clear c9
          obtain rfl := Option.some.inj H
          go_enter Tryz.func126, Tryz.ntmps126
          go_wp2_with (first | ((with_reducible refine kI (f := 173) rfl ?_); refine kN (some 8) rfl rfl Tryz.func173 (by kernel_rfl) rfl #[.int .i64 a0] rfl (by (try simp only [List.map_toArray, List.map_cons, List.map_nil]); first | done | rfl | (simp only [List.length_drop, List.length_take]; rfl)) ?_; (with_reducible refine (cmp_isNaN_int64.calls a0 false _ A3.out).mono ?_); rintro e w' ⟨rfl, ⟨nd, rfl⟩⟩; refine ⟨_, rfl, ?_⟩) | ((with_reducible refine kI (f := 173) rfl ?_); refine kN (some 10) rfl rfl Tryz.func173 (by kernel_rfl) rfl #[.int .i64 a1] rfl (by (try simp only [List.map_toArray, List.map_cons, List.map_nil]); first | done | rfl | (simp only [List.length_drop, List.length_take]; rfl)) ?_; (with_reducible refine (cmp_isNaN_int64.calls a1 false _ A4.out).mono ?_); rintro e w' ⟨rfl, ⟨nd, rfl⟩⟩; refine ⟨_, rfl, ?_⟩))
          go_ret
          exact ⟨by first | rfl | (simp; done) | (simp [*]; done), by repeat (first | exact Drawn0.refl _ | apply Drawn0.step)⟩
        · rw [if_neg c9] at H
          have c9b0 : decide (a1 < a0) = false := decide_eq_false c9
          clear c9
          obtain rfl := Option.some.inj H
          go_enter Tryz.func126, Tryz.ntmps126
          go_wp2_with (first | ((with_reducible refine kI (f := 173) rfl ?_); refine kN (some 8) rfl rfl Tryz.func173 (by kernel_rfl) rfl #[.int .i64 a0] rfl (by (try simp only [List.map_toArray, List.map_cons, List.map_nil]); first | done | rfl | (simp only [List.length_drop, List.length_take]; rfl)) ?_; (with_reducible refine (cmp_isNaN_int64.calls a0 false _ A3.out).mono ?_); rintro e w' ⟨rfl, ⟨nd, rfl⟩⟩; refine ⟨_, rfl, ?_⟩) | ((with_reducible refine kI (f := 173) rfl ?_); refine kN (some 10) rfl rfl Tryz.func173 (by kernel_rfl) rfl #[.int .i64 a1] rfl (by (try simp only [List.map_toArray, List.map_cons, List.map_nil]); first | done | rfl | (simp only [List.length_drop, List.length_take]; rfl)) ?_; (with_reducible refine (cmp_isNaN_int64.calls a1 false _ A4.out).mono ?_); rintro e w' ⟨rfl, ⟨nd, rfl⟩⟩; refine ⟨_, rfl, ?_⟩))
          go_ret
          exact ⟨by first | rfl | (simp; done) | (simp [*]; done), by repeat (first | exact Drawn0.refl _ | apply Drawn0.step)⟩
end Go.Proofs.YthkmckmfgglafaaGreat.P
namespace Go.Proofs.YthkmckmfgglafaaGreat.P
open Go.RowKit Go.Proofs.YthkmckmfgglafaaGreatW.PrintWords Go.Proofs.YthkmckmfgglafaaGreatW.PrintLast Go.Proofs.YthkmckmfgglafaaGreatW.PrintMore
open Go.Proofs.YthkmckmfgglafaaGreat.A
attribute [local go_sem] max2_int min2_int max_two min_two max_three min_three max_four min_four   -- for this text's walks alone
set_option linter.unusedVariables false
set_option linter.unusedSimpArgs false
def day_CmpStamp.j0 : Nat → Bool → Int → Int → Int → Int → Option (Int)
  | 0, _, _, _, _, _ => none
  | k + 1, x12, x1042000, x1042001, x1043000, x1043001 => if x12 = true then (some 0) else ((cmp_Compare_int.f x1042000 x1043000).bind fun t1045 => ((cmp_Compare_int64.f x1042001 x1043001).bind fun t1046 => ((cmp_Or_int.f k (([t1045, t1046] : List Int))).bind fun t1050 => (some t1050))))
def day_CmpStamp.f (k : Nat) (a0_0 : Int) (a0_1 : Int) (a1_0 : Int) (a1_1 : Int) : Option (Int) := (day_RightStamp.f k a0_0 a0_1).bind fun t1043 => (if t1043 = true then ((day_RightStamp.f k a1_0 a1_1).bind fun t1044 => (day_CmpStamp.j0 k (!t1044) a0_0 a0_1 a1_0 a1_1)) else (day_CmpStamp.j0 k true a0_0 a0_1 a1_0 a1_1))
def day_CmpStamp.T3 : Bool × List (List Nat × List Nat) := (true, [([], []), ([0], [0]), ([], []), ([2], [2]), ([1, 3], [1, 3]), ([], []), ([5], [5]), ([], []), ([7], [7]), ([6, 8, 4], [6, 8]), ([4, 9], [4, 9]), ([10, 9], [10]), ([11, 11, 0, 1, 2, 3, 4, 5, 6, 7, 8, 9, 10, 11], [11])])
def day_CmpStamp.B3 : List Nat := [0, 1, 0, 4, 15, 0, 32, 0, 128, 511, 1023, 2047, 4095]
theorem day_CmpStamp.tab3 : rtab .any (opsOf Tryz.f82 3) = day_CmpStamp.T3 := by kernel_rfl
theorem day_CmpStamp.bits3 : waitsOk day_CmpStamp.T3.2 day_CmpStamp.B3 = true := by kernel_rfl
set_option maxHeartbeats 8000000 in
set_option maxRecDepth 100000 in
theorem day_CmpStamp.calls (k : Nat) (a0_0 : Int) (a0_1 : Int) (a1_0 : Int) (a1_1 : Int) (r : Int) (w : World) (h : day_CmpStamp.f k a0_0 a0_1 a1_0 a1_1 = some r) :
    Calls Tryz.prog 82 #[.agg #[.int .i64 a0_0, .int .i64 a0_1], .agg #[.int .i64 a1_0, .int .i64 a1_1]] w fun e w' => e = .returned (.int .i64 r) ∧ Below w.heap.size w w' := by
  have hu23 := Tryz.underlying23
  have HB := Aside0.mk (Below.refl w.heap.size w)
  have H : ((day_RightStamp.f k a0_0 a0_1).bind fun t1043 => (if t1043 = true then ((day_RightStamp.f k a1_0 a1_1).bind fun t1044 => (day_CmpStamp.j0 k (!t1044) a0_0 a0_1 a1_0 a1_1)) else (day_CmpStamp.j0 k true a0_0 a0_1 a1_0 a1_1))) = some r := h
  clear h
  have HC3 := Aside0.mk H
  clear H
  go_enter Tryz.func82, Tryz.ntmps82
  go_upto_region 1 with (first | ((with_reducible refine gate_dst (N := 2) rfl ?_); refine box_event ?hg (N := 2) ?hd (cs := #[.int .i64 a0_0, .int .i64 a0_1]) (t := 23) ?hr ?_; (case hd => rfl); (case hg => rfl); (case hr => first | (go_simp; done) | (go_simp; rfl)); intro gb1041 hg w4 hbox hb; have n0_ := Aside0.mk (kL (by repeat (first | (with_reducible first | exact HB.out | apply kC | apply kA | apply kB) | exact HB.out)) hb); have n1_ := Aside0.mk (hbox); have n2_ := Aside0.mk ((by rw [hg]; exact (kJ (by repeat (first | (with_reducible first | exact HB.out | apply kC | apply kA | apply kB) | exact HB.out))) : w.heap.size ≤ gb1041)); have n3_ := Aside0.mk ((by rw [hg]; exact (kJ (by repeat (first | (with_reducible first | exact HB.out | apply kC | apply kA | apply kB) | exact HB.out))) : w.heap.size ≤ gb1041)); clear HB; have HB := n0_; have BK1041 := n1_; have GW1041 := n2_; have GE1041 := n3_; clear n0_ n1_ n2_ n3_; clear hb hbox hg) | ((with_reducible refine gate_dst (N := 3) rfl ?_); refine box_event ?hg (N := 3) ?hd (cs := #[.int .i64 a1_0, .int .i64 a1_1]) (t := 23) ?hr ?_; (case hd => rfl); (case hg => rfl); (case hr => first | (go_simp; done) | (go_simp; rfl)); intro gb1042 hg w5 hbox hb; have n0_ := Aside0.mk (kM (g := gb1041) (o := .cells #[.int .i64 a0_0, .int .i64 a0_1] 23 (0, 0)) (by (with_reducible repeat (first | refine kE ?_ _ | refine kG ?_ | refine kF ?_ _)); exact BK1041.out) hb); have n1_ := Aside0.mk (kL (by repeat (first | (with_reducible first | exact HB.out | apply kC | apply kA | apply kB | refine kD ?_ GE1041.out) | exact HB.out)) hb); have n2_ := Aside0.mk (hbox); have n3_ := Aside0.mk ((by rw [hg]; exact (kJ (by repeat (first | (with_reducible first | exact HB.out | apply kC | apply kA | apply kB | refine kD ?_ GE1041.out) | exact HB.out))) : w.heap.size ≤ gb1042)); have n4_ := Aside0.mk ((by rw [hg]; exact (kJ (by repeat (first | (with_reducible first | exact HB.out | apply kC | apply kA | apply kB | refine kD ?_ GE1041.out) | exact HB.out))) : w.heap.size ≤ gb1042)); have n5_ := Aside0.mk ((by rw [hg]; exact Nat.ne_of_lt (blk_lt (g := gb1041) (o := .cells #[.int .i64 a0_0, .int .i64 a0_1] 23 (0, 0)) (by (with_reducible repeat (first | refine kE ?_ _ | refine kG ?_ | refine kF ?_ _)); exact BK1041.out)) : gb1041 ≠ gb1042)); have n6_ := Aside0.mk ((by rw [hg]; exact Nat.ne_of_gt (blk_lt (g := gb1041) (o := .cells #[.int .i64 a0_0, .int .i64 a0_1] 23 (0, 0)) (by (with_reducible repeat (first | refine kE ?_ _ | refine kG ?_ | refine kF ?_ _)); exact BK1041.out)) : gb1042 ≠ gb1041)); clear BK1041; clear HB; have BK1041 := n0_; have HB := n1_; have BK1042 := n2_; have GW1042 := n3_; have GE1042 := n4_; have NB1041_1042 := n5_; have NB1042_1041 := n6_; clear n0_ n1_ n2_ n3_ n4_ n5_ n6_; clear hb hbox hg))
  (try simp only [Act.put, List.setIfInBounds_toArray, List.set_cons_zero, List.set_cons_succ])
  go_cut [12] (fun v12 wc => ∃ (kq : Nat) (x12_2 : Bool), v12 = .bool x12_2 ∧ Aside0 (day_CmpStamp.j0 kq x12_2 a0_0 a0_1 a1_0 a1_1 = some r) ∧ Aside0 (kq ≤ k) ∧ Aside0 (wc.heap[gb1041]? = some (.cells #[.int .i64 a0_0, .int .i64 a0_1] 23 (0, 0))) ∧ Aside0 (wc.heap[gb1042]? = some (.cells #[.int .i64 a1_0, .int .i64 a1_1] 23 (0, 0))) ∧ Aside0 (Below w.heap.size w wc))
  case first =>
    have H := HC3.out
    clear HC3
    replace H := Option.bind_eq_some_iff.mp H
    obtain ⟨t1043, A60, H⟩ := H
    replace H : (if t1043 = true then ((day_RightStamp.f k a1_0 a1_1).bind fun t1044 => (day_CmpStamp.j0 k (!t1044) a0_0 a0_1 a1_0 a1_1)) else (day_CmpStamp.j0 k true a0_0 a0_1 a1_0 a1_1)) = some r := H
    have A6 := Aside0.mk A60
    clear A60
    by_cases c7 : t1043 = true
    · subst c7
      have H1 : ((day_RightStamp.f k a1_0 a1_1).bind fun t1044 => (day_CmpStamp.j0 k (!t1044) a0_0 a0_1 a1_0 a1_1)) = some r := by rw [if_pos rfl] at H; exact H
      clear H
      have H := H1
      clear H1
      replace H := Option.bind_eq_some_iff.mp H
      obtain ⟨t1044, A80, H⟩ := H
      replace H : (day_CmpStamp.j0 k (!t1044) a0_0 a0_1 a1_0 a1_1) = some r := H
      have A8 := Aside0.mk A80
      clear A80
      have H' := Aside0.mk H
      clear H
      have hnb9 := NB1041_1042.out
      have hnc9 := NB1042_1041.out
      have hcz10_0 : w5.cell? ⟨gb1041, 0, none⟩ = some (.int .i64 a0_0) := (kH BK1041.out 0).trans rfl
      have hcz10_1 : w5.cell? ⟨gb1041, 1, none⟩ = some (.int .i64 a0_1) := (kH BK1041.out 1).trans rfl
      have hfz10_0 := kK BK1041.out 0
      have hfz10_1 := kK BK1041.out 1
      go_wp2_with (first | ((with_reducible refine kI (f := 44) rfl ?_); refine kN (some 6) rfl rfl Tryz.func44 (by kernel_rfl) rfl #[.agg #[.int .i64 a0_0, .int .i64 a0_1]] rfl (by (try simp only [List.map_toArray, List.map_cons, List.map_nil]); first | done | rfl | (simp only [List.length_drop, List.length_take]; rfl)) ?_; (with_reducible refine (day_RightStamp.calls k a0_0 a0_1 true _ A6.out).mono ?_); rintro e w11 ⟨rfl, hb⟩; refine ⟨_, rfl, ?_⟩; have n0_ := Aside0.mk (kM (g := gb1041) (o := .cells #[.int .i64 a0_0, .int .i64 a0_1] 23 (0, 0)) (by (with_reducible repeat (first | refine kE ?_ _ | refine kG ?_ | refine kF ?_ _)); exact BK1041.out) hb); have n1_ := Aside0.mk (kM (g := gb1042) (o := .cells #[.int .i64 a1_0, .int .i64 a1_1] 23 (0, 0)) (by (with_reducible repeat (first | refine kE ?_ _ | refine kG ?_ | refine kF ?_ _)); exact BK1042.out) hb); have n2_ := Aside0.mk (kL (by repeat (first | (with_reducible first | exact HB.out | apply kC | apply kA | apply kB | refine kD ?_ GE1041.out | refine kD ?_ GE1042.out) | exact HB.out)) hb); clear BK1041; clear BK1042; clear HB; have BK1041 := n0_; have BK1042 := n1_; have HB := n2_; clear n0_ n1_ n2_; (try clear hb); (try clear hb2); (try clear hk); (try clear hi); have hcz12_0 : w11.cell? ⟨gb1042, 0, none⟩ = some (.int .i64 a1_0) := (kH BK1042.out 0).trans rfl; have hcz12_1 : w11.cell? ⟨gb1042, 1, none⟩ = some (.int .i64 a1_1) := (kH BK1042.out 1).trans rfl; have hfz12_0 := kK BK1042.out 0; have hfz12_1 := kK BK1042.out 1) | (go_at_call 44; (with_reducible refine (day_RightStamp.calls k a1_0 a1_1 t1044 _ A8.out).mono ?_); rintro e w13 ⟨rfl, hb⟩; have n0_ := Aside0.mk (kM (g := gb1041) (o := .cells #[.int .i64 a0_0, .int .i64 a0_1] 23 (0, 0)) (by (with_reducible repeat (first | refine kE ?_ _ | refine kG ?_ | refine kF ?_ _)); exact BK1041.out) hb); have n1_ := Aside0.mk (kM (g := gb1042) (o := .cells #[.int .i64 a1_0, .int .i64 a1_1] 23 (0, 0)) (by (with_reducible repeat (first | refine kE ?_ _ | refine kG ?_ | refine kF ?_ _)); exact BK1042.out) hb); have n2_ := Aside0.mk (kL (by repeat (first | (with_reducible first | exact HB.out | apply kC | apply kA | apply kB | refine kD ?_ GE1041.out | refine kD ?_ GE1042.out) | exact HB.out)) hb); clear BK1041; clear BK1042; clear HB; have BK1041 := n0_; have BK1042 := n1_; have HB := n2_; clear n0_ n1_ n2_; (try clear hb); (try clear hb2); (try clear hk); (try clear hi)))
      go_meet
      case rel => exact ⟨_, (!t1044), (by first | rfl | (simp; done) | (simp [*]; done)), H', ⟨by first | omega | exact Nat.le_refl _⟩, ⟨by (with_reducible repeat (first | refine kE ?_ _ | refine kG ?_ | refine kF ?_ _)); exact BK1041.out⟩, ⟨by (with_reducible repeat (first | refine kE ?_ _ | refine kG ?_ | refine kF ?_ _)); exact BK1042.out⟩, ⟨by repeat (first | (with_reducible first | exact HB.out | apply kC | apply kA | apply kB | refine kD ?_ GE1041.out | refine kD ?_ GE1042.out) | exact HB.out)⟩⟩
    · replace c7 := Bool.eq_false_iff.mpr c7
      subst c7
      have H1 : (day_CmpStamp.j0 k true a0_0 a0_1 a1_0 a1_1) = some r := by rw [if_neg (show ¬ (false = true) by decide)] at H; exact H
      clear H
      have H := H1
      clear H1
      have H' := Aside0.mk H
      clear H
      have hnb14 := NB1041_1042.out
      have hnc14 := NB1042_1041.out
      have hcz15_0 : w5.cell? ⟨gb1041, 0, none⟩ = some (.int .i64 a0_0) := (kH BK1041.out 0).trans rfl
      have hcz15_1 : w5.cell? ⟨gb1041, 1, none⟩ = some (.int .i64 a0_1) := (kH BK1041.out 1).trans rfl
      have hfz15_0 := kK BK1041.out 0
      have hfz15_1 := kK BK1041.out 1
      go_wp2_with (first | ((with_reducible refine kI (f := 44) rfl ?_); refine kN (some 6) rfl rfl Tryz.func44 (by kernel_rfl) rfl #[.agg #[.int .i64 a0_0, .int .i64 a0_1]] rfl (by (try simp only [List.map_toArray, List.map_cons, List.map_nil]); first | done | rfl | (simp only [List.length_drop, List.length_take]; rfl)) ?_; (with_reducible refine (day_RightStamp.calls k a0_0 a0_1 false _ A6.out).mono ?_); rintro e w16 ⟨rfl, hb⟩; refine ⟨_, rfl, ?_⟩; have n0_ := Aside0.mk (kM (g := gb1041) (o := .cells #[.int .i64 a0_0, .int .i64 a0_1] 23 (0, 0)) (by (with_reducible repeat (first | refine kE ?_ _ | refine kG ?_ | refine kF ?_ _)); exact BK1041.out) hb); have n1_ := Aside0.mk (kM (g := gb1042) (o := .cells #[.int .i64 a1_0, .int .i64 a1_1] 23 (0, 0)) (by (with_reducible repeat (first | refine kE ?_ _ | refine kG ?_ | refine kF ?_ _)); exact BK1042.out) hb); have n2_ := Aside0.mk (kL (by repeat (first | (with_reducible first | exact HB.out | apply kC | apply kA | apply kB | refine kD ?_ GE1041.out | refine kD ?_ GE1042.out) | exact HB.out)) hb); clear BK1041; clear BK1042; clear HB; have BK1041 := n0_; have BK1042 := n1_; have HB := n2_; clear n0_ n1_ n2_; (try clear hb); (try clear hb2); (try clear hk); (try clear hi)))
      go_meet
      case rel => exact ⟨_, (true), (by first | rfl | (simp; done) | (simp [*]; done)), H', ⟨by first | omega | exact Nat.le_refl _⟩, ⟨by (with_reducible repeat (first | refine kE ?_ _ | refine kG ?_ | refine kF ?_ _)); exact BK1041.out⟩, ⟨by (with_reducible repeat (first | refine kE ?_ _ | refine kG ?_ | refine kF ?_ _)); exact BK1042.out⟩, ⟨by repeat (first | (with_reducible first | exact HB.out | apply kC | apply kA | apply kB | refine kD ?_ GE1041.out | refine kD ?_ GE1042.out) | exact HB.out)⟩⟩
  case rest =>
    clear HC3
    try clear c1
    try clear p2
    try clear c4
    try clear c7
    try clear c8
    try clear c9
    try clear c14
    try clear hcz10_0
    try clear hcz10_1
    try clear hcz12_0
    try clear hcz12_1
    try clear hcz15_0
    try clear hcz15_1
    try clear hfz10_0
    try clear hfz10_1
    try clear hfz12_0
    try clear hfz12_1
    try clear hfz15_0
    try clear hfz15_1
    obtain ⟨kq, x12_2, rfl, HA, HJ2, BK1041, BK1042, HB⟩ := hcut
    cases kq with
    | zero => exact absurd HA.out (by simp [day_CmpStamp.j0])
    | succ kj2 =>
      have H := HA.out
      clear HA
      simp only [day_CmpStamp.j0] at H
      by_cases c17 : x12_2 = true
      · subst c17
        have H1 : (some 0) = some r := by rw [if_pos rfl] at H; exact H
        clear H
        have H := H1
        clear H1
        obtain rfl := Option.some.inj H
        go_wp2
        go_ret
        exact ⟨by first | rfl | (simp [errW_none, errW_some] <;> rfl) | (simp [*, errW_none, errW_some] <;> rfl), by repeat (first | (with_reducible first | exact HB.out | apply kC | apply kA | apply kB | refine kD ?_ GE1041.out | refine kD ?_ GE1042.out) | exact HB.out)⟩
      · replace c17 := Bool.eq_false_iff.mpr c17
        subst c17
        have H1 : ((cmp_Compare_int.f a0_0 a1_0).bind fun t1045 => ((cmp_Compare_int64.f a0_1 a1_1).bind fun t1046 => ((cmp_Or_int.f kj2 (([t1045, t1046] : List Int))).bind fun t1050 => (some t1050)))) = some r := by rw [if_neg (show ¬ (false = true) by decide)] at H; exact H
        clear H
        have H := H1
        clear H1
        replace H := Option.bind_eq_some_iff.mp H
        obtain ⟨t1045, A180, H⟩ := H
        replace H : ((cmp_Compare_int64.f a0_1 a1_1).bind fun t1046 => ((cmp_Or_int.f kj2 (([t1045, t1046] : List Int))).bind fun t1050 => (some t1050))) = some r := H
        have A18 := Aside0.mk A180
        clear A180
        replace H := Option.bind_eq_some_iff.mp H
        obtain ⟨t1046, A190, H⟩ := H
        replace H : ((cmp_Or_int.f kj2 (([t1045, t1046] : List Int))).bind fun t1050 => (some t1050)) = some r := H
        have A19 := Aside0.mk A190
        clear A190
        obtain ⟨y1047, hy1047⟩ : ∃ y_ : List Int, y_ = (([t1045, t1046] : List Int)) := ⟨_, rfl⟩
        replace H : ((cmp_Or_int.f kj2 y1047).bind fun t1050 => (some t1050)) = some r := by first | (rw [hy1047]; with_reducible exact H) | (have H2_ := (Option.bind_some _ _).symm.trans H; rw [hy1047]; with_reducible exact H2_) | (have H2_ := (Option.bind_some _ _).symm.trans H; with_reducible exact H2_) | with_reducible exact H | (rw [hy1047]; exact H) | exact H
        have Ny1047 := Aside0.mk hy1047
        clear hy1047
        replace H := Option.bind_eq_some_iff.mp H
        obtain ⟨t1050, A200, H⟩ := H
        replace H : (some t1050) = some r := H
        have A20 := Aside0.mk A200
        clear A200
        obtain rfl := Option.some.inj H
        try go_wp2
        have n0_ := Aside0.mk (kG BK1041.out)
        have n1_ := Aside0.mk (kG BK1042.out)
        have n2_ := Aside0.mk (kB HB.out)
        clear BK1041
        clear BK1042
        clear HB
        have BK1041 := n0_
        have BK1042 := n1_
        have HB := n2_
        clear n0_ n1_ n2_
        refine start_ (n := 13) (S := fun w' => w'.cell? ⟨gb1041, 0, none⟩ = some (.int .i64 a0_0) ∧ w'.cell? ⟨gb1041, 1, none⟩ = some (.int .i64 a0_1) ∧ w'.cell? ⟨gb1042, 0, none⟩ = some (.int .i64 a1_0) ∧ w'.cell? ⟨gb1042, 1, none⟩ = some (.int .i64 a1_1)) (ds := []) #[false, false, false, false, false, false, false, false, false, false, false, false, false] (by kernel_rfl) rfl rfl ⟨(kH BK1041.out 0).trans rfl, (kH BK1041.out 1).trans rfl, (kH BK1042.out 0).trans rfl, (kH BK1042.out 1).trans rfl⟩ (fun hHeld => ?_); refine with_tabW day_CmpStamp.tab3 day_CmpStamp.bits3 (fun HT_ HW_ => ?_)
        generalize wc.drew = w21 at BK1041 BK1042 HB hHeld ⊢
        refine pure_ (i := 0) (N := some 13) (v := ?_) (a' := ?_) #[true, false, false, false, false, false, false, false, false, false, false, false, false] rfl rfl (any_of HT_.out (by kernel_rfl)) (fun _ _ _ h => h) (Or.inl ⟨by rfl, ?_⟩) ?_ ?_
        rotate_left
        · intro w'
          go_simp
          with_reducible rfl
        rotate_left
        · simp only [Act.put, List.setIfInBounds_toArray, List.set_cons_zero, List.set_cons_succ, kO, kP]
          rfl
        refine pure_ (i := 2) (N := some 15) (v := ?_) (a' := ?_) #[true, false, true, false, false, false, false, false, false, false, false, false, false] rfl rfl (any_of HT_.out (by kernel_rfl)) (fun _ _ _ h => h) (Or.inl ⟨by rfl, ?_⟩) ?_ ?_
        rotate_left
        · intro w'
          go_simp
          with_reducible rfl
        rotate_left
        · simp only [Act.put, List.setIfInBounds_toArray, List.set_cons_zero, List.set_cons_succ, kO, kP]
          rfl
        refine pure_ (i := 5) (N := some 18) (v := ?_) (a' := ?_) #[true, false, true, false, false, true, false, false, false, false, false, false, false] rfl rfl (any_of HT_.out (by kernel_rfl)) (fun _ _ _ h => h) (Or.inl ⟨by rfl, ?_⟩) ?_ ?_
        rotate_left
        · intro w'
          go_simp
          with_reducible rfl
        rotate_left
        · simp only [Act.put, List.setIfInBounds_toArray, List.set_cons_zero, List.set_cons_succ, kO, kP]
          rfl
        refine pure_ (i := 7) (N := some 20) (v := ?_) (a' := ?_) #[true, false, true, false, false, true, false, true, false, false, false, false, false] rfl rfl (any_of HT_.out (by kernel_rfl)) (fun _ _ _ h => h) (Or.inl ⟨by rfl, ?_⟩) ?_ ?_
        rotate_left
        · intro w'
          go_simp
          with_reducible rfl
        rotate_left
        · simp only [Act.put, List.setIfInBounds_toArray, List.set_cons_zero, List.set_cons_succ, kO, kP]
          rfl
        refine take_ (i := 1) (N := some 14) (v := ?_) (a' := ?_) #[true, true, true, false, false, true, false, true, false, false, false, false, false] rfl rfl (take_ofW HT_.out HW_.out (by kernel_rfl)) (fun _ _ _ h => h) (Or.inl ⟨by rfl, ?_⟩) hHeld ?_ ?_
        rotate_left
        · rintro w' ⟨s0, s1, s2, s3⟩
          go_simp
          with_reducible rfl
        rotate_left
        · simp only [Act.put, List.setIfInBounds_toArray, List.set_cons_zero, List.set_cons_succ, kO, kP]
          rfl
        refine take_ (i := 3) (N := some 16) (v := ?_) (a' := ?_) #[true, true, true, true, false, true, false, true, false, false, false, false, false] rfl rfl (take_ofW HT_.out HW_.out (by kernel_rfl)) (fun _ _ _ h => h) (Or.inl ⟨by rfl, ?_⟩) hHeld ?_ ?_
        rotate_left
        · rintro w' ⟨s0, s1, s2, s3⟩
          go_simp
          with_reducible rfl
        rotate_left
        · simp only [Act.put, List.setIfInBounds_toArray, List.set_cons_zero, List.set_cons_succ, kO, kP]
          rfl
        refine take_ (i := 6) (N := some 19) (v := ?_) (a' := ?_) #[true, true, true, true, false, true, true, true, false, false, false, false, false] rfl rfl (take_ofW HT_.out HW_.out (by kernel_rfl)) (fun _ _ _ h => h) (Or.inl ⟨by rfl, ?_⟩) hHeld ?_ ?_
        rotate_left
        · rintro w' ⟨s0, s1, s2, s3⟩
          go_simp
          with_reducible rfl
        rotate_left
        · simp only [Act.put, List.setIfInBounds_toArray, List.set_cons_zero, List.set_cons_succ, kO, kP]
          rfl
        refine take_ (i := 8) (N := some 21) (v := ?_) (a' := ?_) #[true, true, true, true, false, true, true, true, true, false, false, false, false] rfl rfl (take_ofW HT_.out HW_.out (by kernel_rfl)) (fun _ _ _ h => h) (Or.inl ⟨by rfl, ?_⟩) hHeld ?_ ?_
        rotate_left
        · rintro w' ⟨s0, s1, s2, s3⟩
          go_simp
          with_reducible rfl
        rotate_left
        · simp only [Act.put, List.setIfInBounds_toArray, List.set_cons_zero, List.set_cons_succ, kO, kP]
          rfl
        refine one_ (i := 4) (N := some 17) #[true, true, true, true, true, true, true, true, true, false, false, false, false] rfl rfl (one_of HT_.out (by kernel_rfl)) (by decide) (fun K hK => ?_)
        refine goes_ Tryz.func125 (by kernel_rfl) rfl #[.int .i64 a0_0, .int .i64 a1_0] (by rfl) rfl rfl (by (try simp only [List.map_toArray, List.map_cons, List.map_nil]); first | done | rfl | (simp only [List.length_drop, List.length_take]; rfl)) ?_
        with_reducible refine (cmp_Compare_int.calls a0_0 a1_0 t1045 _ A18.out).mono ?_
        rintro e w' ⟨rfl, ⟨nd, rfl⟩⟩
        refine ⟨_, rfl, ?_⟩
        refine hK.out _ _ ⟨(kH BK1041.out 0).trans rfl, (kH BK1041.out 1).trans rfl, (kH BK1042.out 0).trans rfl, (kH BK1042.out 1).trans rfl⟩ (fun hHeld => ?_)
        clear hK K
        refine norm_ (a' := ?_) ?_ ?_
        rotate_left
        · show Act.put _ (some 17) _ = _
          simp only [Act.put, List.setIfInBounds_toArray, List.set_cons_zero, List.set_cons_succ, kO, kP]
          rfl
        refine one_ (i := 9) (N := some 22) #[true, true, true, true, true, true, true, true, true, true, false, false, false] rfl rfl (one_of HT_.out (by kernel_rfl)) (by decide) (fun K hK => ?_)
        refine goes_ Tryz.func126 (by kernel_rfl) rfl #[.int .i64 a0_1, .int .i64 a1_1] (by rfl) rfl rfl (by (try simp only [List.map_toArray, List.map_cons, List.map_nil]); first | done | rfl | (simp only [List.length_drop, List.length_take]; rfl)) ?_
        with_reducible refine (cmp_Compare_int64.calls a0_1 a1_1 t1046 _ A19.out).mono ?_
        rintro e w' ⟨rfl, ⟨nd, rfl⟩⟩
        refine ⟨_, rfl, ?_⟩
        refine hK.out _ _ ⟨(kH BK1041.out 0).trans rfl, (kH BK1041.out 1).trans rfl, (kH BK1042.out 0).trans rfl, (kH BK1042.out 1).trans rfl⟩ (fun hHeld => ?_)
        clear hK K
        refine norm_ (a' := ?_) ?_ ?_
        rotate_left
        · show Act.put _ (some 22) _ = _
          simp only [Act.put, List.setIfInBounds_toArray, List.set_cons_zero, List.set_cons_succ, kO, kP]
          rfl
        refine one_ (i := 10) (N := some 23) #[true, true, true, true, true, true, true, true, true, true, true, false, false] rfl rfl (one_of HT_.out (by kernel_rfl)) (by decide) (fun K hK => ?_)
        refine Kd.R_lit_step (Kd.int .i64) _ 3 ?hg (N := 23) ?hd (xs := ([t1045, t1046] : List Int)) (inner := [.int .i64 t1045, .int .i64 t1046]) (ok := fun _ => True) (okp := fun _ => True) ?hr ?hp (fun _ hk => hk) trivial (Below.refl _ _) (Nat.le_refl _) (by simp) ?_; (case hd => rfl); (case hg => rfl); (case hr => first | (go_simp; done) | (go_simp; rfl)); (case hp => exact (Reps.one (show Kd.M (Kd.int .i64) _ _ _ t1045 [.int .i64 t1045] from rfl) (Reps.one (show Kd.M (Kd.int .i64) _ _ _ t1046 [.int .i64 t1046] from rfl) (Reps.none _ _))))
        intro v1048 w22 ho23 hb hg_ hnew_
        clear hg_ hnew_
        (first | rw [← Ny1047.out] at ho23 | (simp only [Int.reduceToNat] at ho23; rw [← Ny1047.out] at ho23))
        have n0_ := Aside0.mk (Kd.R_lower ho23 (kJ (by repeat (first | (with_reducible first | exact HB.out | apply kC | apply kA | apply kB | refine kD ?_ GE1041.out | refine kD ?_ GE1042.out) | exact HB.out))))
        have n1_ := Aside0.mk (kM (g := gb1041) (o := .cells #[.int .i64 a0_0, .int .i64 a0_1] 23 (0, 0)) (by (with_reducible repeat (first | refine kE ?_ _ | refine kG ?_ | refine kF ?_ _)); exact BK1041.out) hb)
        have n2_ := Aside0.mk (kM (g := gb1042) (o := .cells #[.int .i64 a1_0, .int .i64 a1_1] 23 (0, 0)) (by (with_reducible repeat (first | refine kE ?_ _ | refine kG ?_ | refine kF ?_ _)); exact BK1042.out) hb)
        have n3_ := Aside0.mk (kL (by repeat (first | (with_reducible first | exact HB.out | apply kC | apply kA | apply kB | refine kD ?_ GE1041.out | refine kD ?_ GE1042.out) | exact HB.out)) hb)
        clear BK1041
        clear BK1042
        clear HB
        have HO1049 := n0_
        have BK1041 := n1_
        have BK1042 := n2_
        have HB := n3_
        clear n0_ n1_ n2_ n3_
        clear hb ho23
        obtain ⟨Ao24, co24, eo24⟩ := Kd.R_slice HO1049.out
        (first | subst eo24 | (injection eo24 with f1_ f2_ f3_; have f4_ := f1_.symm; have f5_ := f3_.symm; clear f1_ f2_ f3_; subst f4_; subst f5_))
        refine hK.out _ _ ⟨(kH BK1041.out 0).trans rfl, (kH BK1041.out 1).trans rfl, (kH BK1042.out 0).trans rfl, (kH BK1042.out 1).trans rfl⟩ (fun hHeld => ?_)
        clear hK K
        refine norm_ (a' := ?_) ?_ ?_
        rotate_left
        · show Act.put _ (some 23) _ = _
          simp only [Act.put, List.setIfInBounds_toArray, List.set_cons_zero, List.set_cons_succ, kO, kP]
          rfl
        refine one_ (i := 11) (N := some 24) #[true, true, true, true, true, true, true, true, true, true, true, true, false] rfl rfl (one_of HT_.out (by kernel_rfl)) (by decide) (fun K hK => ?_)
        refine goes_ Tryz.func124 (by kernel_rfl) rfl #[.slice Ao24 y1047.length co24] (by rfl) rfl rfl (by (try simp only [List.map_toArray, List.map_cons, List.map_nil]); first | done | rfl | (simp only [List.length_drop, List.length_take]; rfl)) ?_
        with_reducible refine (cmp_Or_int.calls kj2 _ _ y1047 t1050 _ ?side1 ?side2 A20.out).mono ?_
        (case side1 => repeat (first | exact (Kd.R_reads' HO1049.out).2.2 | (with_reducible refine Kd.C_alloc ?_ _) | (with_reducible refine Kd.C_drewN ?_ _) | (with_reducible refine Kd.C_drew ?_)))
        (case side2 => exact (Kd.R_reads' HO1049.out).2.1)
        rintro e w' ⟨rfl, ⟨nd, rfl⟩⟩
        refine ⟨_, rfl, ?_⟩
        refine hK.out _ _ ⟨(kH BK1041.out 0).trans rfl, (kH BK1041.out 1).trans rfl, (kH BK1042.out 0).trans rfl, (kH BK1042.out 1).trans rfl⟩ (fun hHeld => ?_)
        clear hK K
        refine norm_ (a' := ?_) ?_ ?_
        rotate_left
        · show Act.put _ (some 24) _ = _
          simp only [Act.put, List.setIfInBounds_toArray, List.set_cons_zero, List.set_cons_succ, kO, kP]
          rfl
        refine pure_ (i := 12) (N := some 4) (v := ?_) (a' := ?_) #[true, true, true, true, true, true, true, true, true, true, true, true, true] rfl rfl (any_of HT_.out (by kernel_rfl)) (fun _ _ _ h => h) (Or.inl ⟨by rfl, ?_⟩) ?_ ?_
        rotate_left
        · intro w'
          go_simp
          with_reducible rfl
        rotate_left
        · simp only [Act.put, List.setIfInBounds_toArray, List.set_cons_zero, List.set_cons_succ, kO, kP]
          rfl
        refine done_ (done_of HT_.out (by kernel_rfl)) ?_
        try go_wp2
        go_ret
        exact ⟨by first | rfl | (simp [errW_none, errW_some] <;> rfl) | (simp [*, errW_none, errW_some] <;> rfl), by repeat (first | (with_reducible first | exact HB.out | apply kC | apply kA | apply kB | refine kD ?_ GE1041.out | refine kD ?_ GE1042.out) | exact HB.out)⟩
end Go.Proofs.YthkmckmfgglafaaGreat.P
namespace Go.Proofs.YthkmckmfgglafaaGreat.P
open Go.RowKit Go.Proofs.YthkmckmfgglafaaGreatW.PrintWords Go.Proofs.YthkmckmfgglafaaGreatW.PrintLast Go.Proofs.YthkmckmfgglafaaGreatW.PrintMore
open Go.Proofs.YthkmckmfgglafaaGreat.A
attribute [local go_sem] max2_int min2_int max_two min_two max_three min_three max_four min_four   -- for this text's walks alone
set_option linter.unusedVariables false
set_option linter.unusedSimpArgs false
open A in
noncomputable def ovR (k : Nat) : Con
  | [.agg [.int .i64 x, .int .i64 y]] => some ((day_RightStamp.f k x y).isSome, .bool (gd (day_RightStamp.f k x y)))
  | _ => none
set_option linter.unusedSimpArgs false in
open A in
theorem ovR_ok (k : Nat) : COk Tryz.prog 44 (ovR k) := by
  intro args p v hc hp w A hA
  unfold ovR at hc
  split at hc
  · rename_i x y
    simp only [Option.some.injEq, Prod.mk.injEq] at hc
    obtain ⟨rfl, rfl⟩ := hc
    rcases hf : day_RightStamp.f k x y with _ | r
    · rw [hf] at hp; cases hp
    obtain rfl : A = [.agg #[.int .i64 x, .int .i64 y]] := by simpa [rl_cons, rl_nil, rv_int, rv_bool, rv_str, rv_agg, rv_fn] using hA
    exact gives_of_calls (fn := Tryz.f44) Tryz.func44 (by kernel_rfl) (by kernel_rfl) (day_RightStamp.calls _ _ _ _ w hf) (fun _ => by simp [gd_some, rl_cons, rl_nil, rv_int, rv_bool, rv_str, rv_agg, rv_tup]) (fun _ h => h)
  · cases hc
open A in
noncomputable def ovC (k : Nat) : Con
  | [.agg [.int .i64 x, .int .i64 y], .agg [.int .i64 z, .int .i64 t]] => some ((day_CmpStamp.f k x y z t).isSome, .int .i64 (gd (day_CmpStamp.f k x y z t)))
  | _ => none
set_option linter.unusedSimpArgs false in
open A in
theorem ovC_ok (k : Nat) : COk Tryz.prog 82 (ovC k) := by
  intro args p v hc hp w A hA
  unfold ovC at hc
  split at hc
  · rename_i x y z t
    simp only [Option.some.injEq, Prod.mk.injEq] at hc
    obtain ⟨rfl, rfl⟩ := hc
    rcases hf : day_CmpStamp.f k x y z t with _ | r
    · rw [hf] at hp; cases hp
    obtain rfl : A = [.agg #[.int .i64 x, .int .i64 y], .agg #[.int .i64 z, .int .i64 t]] := by simpa [rl_cons, rl_nil, rv_int, rv_bool, rv_str, rv_agg, rv_fn] using hA
    exact gives_of_calls (fn := Tryz.f82) Tryz.func82 (by kernel_rfl) (by kernel_rfl) (day_CmpStamp.calls _ _ _ _ _ _ w hf) (fun _ => by simp [gd_some, rl_cons, rl_nil, rv_int, rv_bool, rv_str, rv_agg, rv_tup]) (fun _ h => h)
  · cases hc
open A in
theorem ov_vc (k : Nat) (a0 a1 b0 b1 c0 c1 d0 d1 : Int) (K : AV → Prop) : afv PA Tryz.prog (tab [(44, ovR k), (82, ovC k)]) noLoops 12 27 [.agg [.int .i64 a0, .int .i64 a1], .agg [.int .i64 b0, .int .i64 b1], .agg [.int .i64 c0, .int .i64 c1], .agg [.int .i64 d0, .int .i64 d1]] K = (brc (Option.isSome (day_RightStamp.f k a0 a1)) (∀ (m0 : Bool), m0 = gd (day_RightStamp.f k a0 a1) → brc (!m0) (K (AV.tup [AV.bool false, AV.int IntKind.i64 1])) (brc (Option.isSome (day_RightStamp.f k b0 b1)) (∀ (m1 : Bool), m1 = gd (day_RightStamp.f k b0 b1) → brc (!m1) (K (AV.tup [AV.bool false, AV.int IntKind.i64 1])) (brc (Option.isSome (day_RightStamp.f k c0 c1)) (∀ (m2 : Bool), m2 = gd (day_RightStamp.f k c0 c1) → brc (!m2) (K (AV.tup [AV.bool false, AV.int IntKind.i64 1])) (brc (Option.isSome (day_RightStamp.f k d0 d1)) (∀ (m3 : Bool), m3 = gd (day_RightStamp.f k d0 d1) → brc (!m3) (K (AV.tup [AV.bool false, AV.int IntKind.i64 1])) (brc (Option.isSome (day_CmpStamp.f k b0 b1 a0 a1)) (∀ (m4 : Int), m4 = gd (day_CmpStamp.f k b0 b1 a0 a1) → brc (decide (m4 < 0)) (brc (Option.isSome (day_CmpStamp.f k d0 d1 c0 c1)) (∀ (m5 : Int), m5 = gd (day_CmpStamp.f k d0 d1 c0 c1) → brc (decide (m5 < 0)) (brc (Option.isSome (day_CmpStamp.f k b0 b1 d0 d1)) (∀ (m6 : Int), m6 = gd (day_CmpStamp.f k b0 b1 d0 d1) → brc (decide (m6 > 0)) (brc (Option.isSome (day_CmpStamp.f k b0 b1 c0 c1)) (∀ (m7 : Int), m7 = gd (day_CmpStamp.f k b0 b1 c0 c1) → K (AV.tup [AV.bool (decide (m7 < 0)), AV.int IntKind.i64 0])) False) (brc (decide (m6 < 0)) (brc (Option.isSome (day_CmpStamp.f k d0 d1 a0 a1)) (∀ (m7 : Int), m7 = gd (day_CmpStamp.f k d0 d1 a0 a1) → K (AV.tup [AV.bool (decide (m7 < 0)), AV.int IntKind.i64 0])) False) (K (AV.tup [AV.bool true, AV.int IntKind.i64 0])))) False) (brc (Option.isSome (day_CmpStamp.f k b0 b1 c0 c1)) (∀ (m6 : Int), m6 = gd (day_CmpStamp.f k b0 b1 c0 c1) → brc (decide (m6 > 0)) (brc (Option.isSome (day_CmpStamp.f k b0 b1 d0 d1)) (∀ (m7 : Int), m7 = gd (day_CmpStamp.f k b0 b1 d0 d1) → K (AV.tup [AV.bool (decide (m7 < 0)), AV.int IntKind.i64 0])) False) (brc (decide (m6 < 0)) (brc (Option.isSome (day_CmpStamp.f k c0 c1 a0 a1)) (∀ (m7 : Int), m7 = gd (day_CmpStamp.f k c0 c1 a0 a1) → K (AV.tup [AV.bool (decide (m7 < 0)), AV.int IntKind.i64 0])) False) (K (AV.tup [AV.bool true, AV.int IntKind.i64 0])))) False)) False) (brc (Option.isSome (day_CmpStamp.f k d0 d1 c0 c1)) (∀ (m5 : Int), m5 = gd (day_CmpStamp.f k d0 d1 c0 c1) → brc (decide (m5 < 0)) (brc (Option.isSome (day_CmpStamp.f k a0 a1 d0 d1)) (∀ (m6 : Int), m6 = gd (day_CmpStamp.f k a0 a1 d0 d1) → brc (decide (m6 > 0)) (brc (Option.isSome (day_CmpStamp.f k a0 a1 c0 c1)) (∀ (m7 : Int), m7 = gd (day_CmpStamp.f k a0 a1 c0 c1) → K (AV.tup [AV.bool (decide (m7 < 0)), AV.int IntKind.i64 0])) False) (brc (decide (m6 < 0)) (brc (Option.isSome (day_CmpStamp.f k d0 d1 b0 b1)) (∀ (m7 : Int), m7 = gd (day_CmpStamp.f k d0 d1 b0 b1) → K (AV.tup [AV.bool (decide (m7 < 0)), AV.int IntKind.i64 0])) False) (K (AV.tup [AV.bool true, AV.int IntKind.i64 0])))) False) (brc (Option.isSome (day_CmpStamp.f k a0 a1 c0 c1)) (∀ (m6 : Int), m6 = gd (day_CmpStamp.f k a0 a1 c0 c1) → brc (decide (m6 > 0)) (brc (Option.isSome (day_CmpStamp.f k a0 a1 d0 d1)) (∀ (m7 : Int), m7 = gd (day_CmpStamp.f k a0 a1 d0 d1) → K (AV.tup [AV.bool (decide (m7 < 0)), AV.int IntKind.i64 0])) False) (brc (decide (m6 < 0)) (brc (Option.isSome (day_CmpStamp.f k c0 c1 b0 b1)) (∀ (m7 : Int), m7 = gd (day_CmpStamp.f k c0 c1 b0 b1) → K (AV.tup [AV.bool (decide (m7 < 0)), AV.int IntKind.i64 0])) False) (K (AV.tup [AV.bool true, AV.int IntKind.i64 0])))) False)) False)) False)) False)) False)) False)) False) := by kernel_rfl
/-- One stretch from p to q, the other one from r to s, both in order. -/
def ovPart (k : Nat) (p0 p1 q0 q1 r0 r1 s0 s1 : Int) : Option (Bool × Int) :=
  (day_CmpStamp.f k p0 p1 r0 r1).bind fun c =>
  if c > 0 then (day_CmpStamp.f k p0 p1 s0 s1).bind fun e => some (decide (e < 0), 0)
  else if c < 0 then (day_CmpStamp.f k r0 r1 q0 q1).bind fun e => some (decide (e < 0), 0)
  else some (true, 0)
def ovMore (k : Nat) (p0 p1 q0 q1 c0 c1 d0 d1 : Int) : Option (Bool × Int) :=
  (day_CmpStamp.f k d0 d1 c0 c1).bind fun m => if m < 0 then ovPart k p0 p1 q0 q1 d0 d1 c0 c1 else ovPart k p0 p1 q0 q1 c0 c1 d0 d1
def ops_Overlaps.f (k : Nat) (a0_0 : Int) (a0_1 : Int) (a1_0 : Int) (a1_1 : Int) (a2_0 : Int) (a2_1 : Int) (a3_0 : Int) (a3_1 : Int) : Option (Bool × Int) :=
  (day_RightStamp.f k a0_0 a0_1).bind fun r0 => if r0 = true then ((day_RightStamp.f k a1_0 a1_1).bind fun r1 => if r1 = true then ((day_RightStamp.f k a2_0 a2_1).bind fun r2 => if r2 = true then ((day_RightStamp.f k a3_0 a3_1).bind fun r3 => if r3 = true then
    ((day_CmpStamp.f k a1_0 a1_1 a0_0 a0_1).bind fun m => if m < 0 then ovMore k a1_0 a1_1 a0_0 a0_1 a2_0 a2_1 a3_0 a3_1 else ovMore k a0_0 a0_1 a1_0 a1_1 a2_0 a2_1 a3_0 a3_1)
    else some (false, 1)) else some (false, 1)) else some (false, 1)) else some (false, 1)
set_option linter.unusedSimpArgs false in
set_option maxHeartbeats 8000000 in
set_option maxRecDepth 100000 in
open A in
theorem ops_Overlaps.calls (k : Nat) (a0_0 : Int) (a0_1 : Int) (a1_0 : Int) (a1_1 : Int) (a2_0 : Int) (a2_1 : Int) (a3_0 : Int) (a3_1 : Int) (r1 : Bool) (r2 : Int) (w : World) (h : ops_Overlaps.f k a0_0 a0_1 a1_0 a1_1 a2_0 a2_1 a3_0 a3_1 = some (r1, r2)) :
    Calls Tryz.prog 27 #[.agg #[.int .i64 a0_0, .int .i64 a0_1], .agg #[.int .i64 a1_0, .int .i64 a1_1], .agg #[.int .i64 a2_0, .int .i64 a2_1], .agg #[.int .i64 a3_0, .int .i64 a3_1]] w fun e w' => e = .returned (.tuple #[.bool r1, .int .i64 r2]) ∧ Below w.heap.size w w' := by
  have hT := tab_cons (ovR_ok k) (tab_cons (ovC_ok k) tab_nil)
  have hA : RL noNames w [.agg [.int .i64 a0_0, .int .i64 a0_1], .agg [.int .i64 a1_0, .int .i64 a1_1], .agg [.int .i64 a2_0, .int .i64 a2_1], .agg [.int .i64 a3_0, .int .i64 a3_1]] [.agg #[.int .i64 a0_0, .int .i64 a0_1], .agg #[.int .i64 a1_0, .int .i64 a1_1], .agg #[.int .i64 a2_0, .int .i64 a2_1], .agg #[.int .i64 a3_0, .int .i64 a3_1]] := by simp [rl_cons, rl_nil, rv_int, rv_agg]
  have hV : ∀ ρ V', RV ρ w (AV.tup [.bool r1, .int .i64 r2]) V' → V' = .tuple #[.bool r1, .int .i64 r2] := fun ρ V' hV => by simpa [rl_cons, rl_nil, rv_int, rv_bool, rv_tup] using hV
  refine calls_of_vc hT (n := 12) (g := 27) ?_ hA hV
  rw [ov_vc]
  unfold ops_Overlaps.f ovMore ovPart at h
  simp only [Option.bind_eq_some_iff, ite_some_iff] at h
  simp only [brc_iff]
  (repeat' (first | (have or_ : Or _ _ := h; clear or_; rcases h with h | h) | (have or_ : Exists _ := h; clear or_; obtain ⟨_, h⟩ := h) | (have or_ : And _ _ := h; clear or_; obtain ⟨hq_, h⟩ := h))) <;> (try simp only [Option.some.injEq, Prod.mk.injEq, reduceCtorEq] at h) <;> (obtain ⟨rfl, rfl⟩ := h) <;> (simp_all [gd_some] <;> (try omega) <;> done)
noncomputable def ops_Overlaps.con (k : Nat) : Con
  | [.agg [.int .i64 a0_0, .int .i64 a0_1], .agg [.int .i64 a1_0, .int .i64 a1_1], .agg [.int .i64 a2_0, .int .i64 a2_1], .agg [.int .i64 a3_0, .int .i64 a3_1]] => some ((ops_Overlaps.f k a0_0 a0_1 a1_0 a1_1 a2_0 a2_1 a3_0 a3_1).isSome, .tup [.bool (gd (ops_Overlaps.f k a0_0 a0_1 a1_0 a1_1 a2_0 a2_1 a3_0 a3_1)).1, .int .i64 (gd (ops_Overlaps.f k a0_0 a0_1 a1_0 a1_1 a2_0 a2_1 a3_0 a3_1)).2])
  | _ => none
set_option maxRecDepth 100000 in
theorem ops_Overlaps.cok (k : Nat) : COk Tryz.prog 27 (ops_Overlaps.con k) := by
  intro args p v hc hp w A hA
  unfold ops_Overlaps.con at hc
  split at hc
  · rename_i a0_0 a0_1 a1_0 a1_1 a2_0 a2_1 a3_0 a3_1
    simp only [Option.some.injEq, Prod.mk.injEq] at hc
    obtain ⟨rfl, rfl⟩ := hc
    rcases hf : ops_Overlaps.f k a0_0 a0_1 a1_0 a1_1 a2_0 a2_1 a3_0 a3_1 with _ | ⟨r1, r2⟩
    · rw [hf] at hp; cases hp
    obtain rfl : A = [.agg #[.int .i64 a0_0, .int .i64 a0_1], .agg #[.int .i64 a1_0, .int .i64 a1_1], .agg #[.int .i64 a2_0, .int .i64 a2_1], .agg #[.int .i64 a3_0, .int .i64 a3_1]] := by simpa [rl_cons, rl_nil, rv_int, rv_bool, rv_str, rv_agg, rv_fn] using hA
    exact gives_of_calls (fn := Tryz.f27) Tryz.func27 (by kernel_rfl) (by kernel_rfl) (ops_Overlaps.calls _ _ _ _ _ _ _ _ _ _ _ w hf) (fun _ => by simp [gd_some, rl_cons, rl_nil, rv_int, rv_bool, rv_str, rv_agg, rv_tup]) (fun _ h => h)
  · cases hc
end Go.Proofs.YthkmckmfgglafaaGreat.P
