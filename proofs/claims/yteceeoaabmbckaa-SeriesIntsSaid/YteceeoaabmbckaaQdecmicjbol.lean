-- Written by a program of the session (a print of the seat's translation, functions given by hand among it). Lean checks it.
import Derived.Test.YteceeoaabmbckaaQnfimnniaco
namespace Go.Proofs.Yteceeoaabmbckaa.P
open Go.RowKit Go.Proofs.YteceeoaabmbckaaW.PrintWords Go.Proofs.YteceeoaabmbckaaW.PrintLast Go.Proofs.YteceeoaabmbckaaW.PrintMore
attribute [local go_sem] max2_int min2_int max_two min_two max_three min_three max_four min_four   -- for this text's walks alone
set_option linter.unusedVariables false
set_option linter.unusedSimpArgs false
def bits_Add64.f (a0 : Int) (a1 : Int) (a2 : Int) : Option (Int × Int) := if 0 ≤ a0 then (if 0 ≤ a1 then (if 0 ≤ a2 then (if a2 ≤ 1 then (some ((a0 + a1 + a2) % 18446744073709551616, (a0 + a1 + a2) / 18446744073709551616)) else none) else none) else none) else none
set_option maxRecDepth 100000 in
theorem bits_Add64.run (a0 : Int) (a1 : Int) (a2 : Int) (r1 r2 : Int) (w : World) (h : bits_Add64.f a0 a1 a2 = some (r1, r2)) :
    (callFunc 12 #[.int .u64 a0, .int .u64 a1, .int .u64 a2]).run Try.prog w = .ok (.value (.tuple #[.int .u64 r1, .int .u64 r2])) w := by
  unfold bits_Add64.f at h
  split at h
  · split at h
    · split at h
      · split at h
        · rename_i h0 h1 h2 h3
          injection h with h
          injection h with e1 e2
          subst e1; subst e2
          rw [run_callFunc_extern Try.func12 (by kernel_rfl) (by kernel_rfl) (by kernel_rfl) (e := add64Entry) (by kernel_rfl), run_add64 a0 a1 a2 h0 h1 h2 h3]
          rfl
        · cases h
      · cases h
    · cases h
  · cases h
def series_Count.j0 : Nat → Int → Int → Int → Option (Int × Int)
  | 0, _, _, _ => none
  | k + 1, x0, x1, x8 => if x0 > x1 then (some (0, 0)) else (if x8 = 0 then (none) else ((bits_Add64.f (IntKind.u64.wrap (Int.tdiv (IntKind.u64.wrap ((IntKind.u64.wrap (x1)) - (IntKind.u64.wrap (x0)))) x8)) 1 0).bind fun bt101 => (if bt101.2 = 0 then (some (bt101.1, 0)) else (some (0, 10)))))
def series_Count.f (k : Nat) (a0 : Int) (a1 : Int) (a2 : Int) : Option (Int × Int) := if a2 = 0 then (some (0, 11)) else (if a2 < 0 then (series_Count.j0 k a1 a0 (IntKind.u64.wrap (-(IntKind.u64.wrap (a2))))) else (series_Count.j0 k a0 a1 (IntKind.u64.wrap (a2))))
set_option maxHeartbeats 8000000 in
set_option maxRecDepth 100000 in
theorem series_Count.calls (k : Nat) (a0 : Int) (a1 : Int) (a2 : Int) (r1 : Int) (r2 : Int) (w : World) (h : series_Count.f k a0 a1 a2 = some (r1, r2)) :
    Calls Try.prog 7 #[.int .i64 a0, .int .i64 a1, .int .i64 a2] w fun e w' => e = .returned (.tuple #[.int .u64 r1, .int .i64 r2]) ∧ Drawn0 w w' := by
  have H : (if a2 = 0 then (some (0, 11)) else (if a2 < 0 then (series_Count.j0 k a1 a0 (IntKind.u64.wrap (-(IntKind.u64.wrap (a2))))) else (series_Count.j0 k a0 a1 (IntKind.u64.wrap (a2))))) = some (r1, r2) := h
  clear h
  have HC4 := Aside0.mk H
  clear H
  go_enter Try.func7, Try.ntmps7
  go_upto_block 0 with (fail)
  go_cut [0, 1, 8] (fun v0 v1 v8 wc => ∃ (kq : Nat) (x0_3 : Int) (x1_3 : Int) (x8_3 : Int), v0 = .int .i64 x0_3 ∧ v1 = .int .i64 x1_3 ∧ v8 = .int .u64 x8_3 ∧ Aside0 (series_Count.j0 kq x0_3 x1_3 x8_3 = some (r1, r2)) ∧ Aside0 (kq ≤ k) ∧ Drawn0 w wc)
  case first =>
    have H := HC4.out
    clear HC4
    by_cases c5 : a2 = 0
    · rw [if_pos c5] at H
      have c5b0 : (a2 == 0) = true := beq_iff_eq.mpr c5
      have c5b1 : (a2 != 0) = false := bne_eq_false_iff_eq.mpr c5
      clear c5
      (first | rw [c5b0] | (simp only [i64_w, i32_w]; rw [c5b0]) | skip)
      simp only [Option.some.injEq, Prod.mk.injEq] at H
      obtain ⟨rfl, rfl⟩ := H
      go_wp2
      go_ret2
      exact ⟨by first | rfl | (simp; done) | (simp [*]; done), by repeat (first | exact Drawn0.refl _ | apply Drawn0.step)⟩
    · rw [if_neg c5] at H
      have c5b0 : (a2 == 0) = false := beq_eq_false_iff_ne.mpr c5
      have c5b1 : (a2 != 0) = true := bne_iff_ne.mpr c5
      (first | rw [c5b0] | (simp only [i64_w, i32_w]; rw [c5b0]) | skip)
      by_cases c6 : a2 < 0
      · rw [if_pos c6] at H
        have c6b0 : decide (a2 < 0) = true := decide_eq_true c6
        clear c6
        have H' := Aside0.mk H
        clear H
        go_wp2
        go_meet
        case rel => exact ⟨_, (a1), (a0), (IntKind.u64.wrap (-(IntKind.u64.wrap (a2)))), (by first | rfl | (simp; done) | (simp [*]; done)), (by first | rfl | (simp; done) | (simp [*]; done)), (by first | rfl | (simp; done) | (simp [*]; done)), H', ⟨by first | omega | exact Nat.le_refl _⟩, by repeat (first | exact Drawn0.refl _ | apply Drawn0.step)⟩
      · rw [if_neg c6] at H
        have c6b0 : decide (a2 < 0) = false := decide_eq_false c6
        clear c6
        have H' := Aside0.mk H
        clear H
        go_wp2
        go_meet
        case rel => exact ⟨_, (a0), (a1), (IntKind.u64.wrap (a2)), (by first | rfl | (simp; done) | (simp [*]; done)), (by first | rfl | (simp; done) | (simp [*]; done)), (by first | rfl | (simp; done) | (simp [*]; done)), H', ⟨by first | omega | exact Nat.le_refl _⟩, by repeat (first | exact Drawn0.refl _ | apply Drawn0.step)⟩
  case rest =>
    clear HC4
    try clear p2
    try clear c5
    try clear c5b0
    try clear c5b1
    try clear c6
    try clear c6b0
    obtain ⟨kq, x0_3, x1_3, x8_3, rfl, rfl, rfl, HA, HJ3, ⟨mc3, rfl⟩⟩ := hcut
    cases kq with
    | zero => exact absurd HA.out (by simp [series_Count.j0])
    | succ kj3 =>
      have H := HA.out
      clear HA
      simp only [series_Count.j0] at H
      by_cases c7 : x0_3 > x1_3
      · rw [if_pos c7] at H
        have c7b0 : decide (x1_3 < x0_3) = true := decide_eq_true c7
        clear c7
        simp only [Option.some.injEq, Prod.mk.injEq] at H
        obtain ⟨rfl, rfl⟩ := H
        go_wp2
        go_ret2
        exact ⟨by first | rfl | (simp; done) | (simp [*]; done), by repeat (first | exact Drawn0.refl _ | apply Drawn0.step)⟩
      · rw [if_neg c7] at H
        have c7b0 : decide (x1_3 < x0_3) = false := decide_eq_false c7
        clear c7
        by_cases c8 : x8_3 = 0
        · rw [if_pos c8] at H
          exact absurd H (by simp)
        · rw [if_neg c8] at H
          have c8b0 : (x8_3 == 0) = false := beq_eq_false_iff_ne.mpr c8
          have c8b1 : (x8_3 != 0) = true := bne_iff_ne.mpr c8
          replace H := Option.bind_eq_some_iff.mp H
          obtain ⟨⟨t101, t102⟩, A90, H⟩ := H
          replace H : (if t102 = 0 then (some (t101, 0)) else (some (0, 10))) = some (r1, r2) := H
          have A9 := Aside0.mk A90
          clear A90
          by_cases c10 : t102 = 0
          · rw [if_pos c10] at H
            have c10b0 : (t102 == 0) = true := beq_iff_eq.mpr c10
            have c10b1 : (t102 != 0) = false := bne_eq_false_iff_eq.mpr c10
            clear c10
            simp only [Option.some.injEq, Prod.mk.injEq] at H
            obtain ⟨rfl, rfl⟩ := H
            have RA9 := fun (W_ : World) => bits_Add64.run (IntKind.u64.wrap (Int.tdiv (IntKind.u64.wrap ((IntKind.u64.wrap (x1_3)) - (IntKind.u64.wrap (x0_3)))) x8_3)) 1 0 t101 t102 W_ A9.out
            go_wp2_with (first | (simp only [bits_Add64.run (IntKind.u64.wrap (Int.tdiv (IntKind.u64.wrap ((IntKind.u64.wrap (x1_3)) - (IntKind.u64.wrap (x0_3)))) x8_3)) 1 0 t101 t102 _ A9.out]))
            go_ret2
            exact ⟨by first | rfl | (simp; done) | (simp [*]; done), by repeat (first | exact Drawn0.refl _ | apply Drawn0.step)⟩
          · rw [if_neg c10] at H
            have c10b0 : (t102 == 0) = false := beq_eq_false_iff_ne.mpr c10
            have c10b1 : (t102 != 0) = true := bne_iff_ne.mpr c10
            simp only [Option.some.injEq, Prod.mk.injEq] at H
            obtain ⟨rfl, rfl⟩ := H
            have RA9 := fun (W_ : World) => bits_Add64.run (IntKind.u64.wrap (Int.tdiv (IntKind.u64.wrap ((IntKind.u64.wrap (x1_3)) - (IntKind.u64.wrap (x0_3)))) x8_3)) 1 0 t101 t102 W_ A9.out
            go_wp2_with (first | (simp only [bits_Add64.run (IntKind.u64.wrap (Int.tdiv (IntKind.u64.wrap ((IntKind.u64.wrap (x1_3)) - (IntKind.u64.wrap (x0_3)))) x8_3)) 1 0 t101 t102 _ A9.out]))
            go_ret2
            exact ⟨by first | rfl | (simp; done) | (simp [*]; done), by repeat (first | exact Drawn0.refl _ | apply Drawn0.step)⟩
end Go.Proofs.Yteceeoaabmbckaa.P
