-- Written by a program of the session (a print of the seat's translation, functions given by hand among it). Lean checks it.
import Derived.Test.YtkongoedgngfhaaQcgoepkfcmc
import Derived.Test.YtkongoedgngfhaaQcofmboejbk
namespace Go.Proofs.Ytkongoedgngfhaa.P
open Go.RowKit Go.Proofs.YtkongoedgngfhaaW.PrintWords Go.Proofs.YtkongoedgngfhaaW.PrintLast Go.Proofs.YtkongoedgngfhaaW.PrintMore
open Go.Proofs.Ytkongoedgngfhaa.A
attribute [local go_sem] max2_int min2_int max_two min_two max_three min_three max_four min_four   -- for this text's walks alone
set_option linter.unusedVariables false
set_option linter.unusedSimpArgs false
mutual
def bits_Div64.j2 : Nat → Int → Int → Int → Int → Int → Int → Int → Int → Option (Int × Int)
  | 0, _, _, _, _, _, _, _, _ => none
  | k + 1, x2, x8, x9, x10, x11, x13, x14, x15 => if x9 = 0 then (none) else (bits_Div64.l1 k x2 x8 x9 x10 x14 x15 (IntKind.u64.wrap ((IntKind.u64.wrap ((IntKind.u64.wrap ((IntKind.u64.wrap (x11 * 4294967296)) + x13)) - (IntKind.u64.wrap (x15 * x2)))) - (IntKind.u64.wrap ((IntKind.u64.wrap (Int.tdiv (IntKind.u64.wrap ((IntKind.u64.wrap ((IntKind.u64.wrap (x11 * 4294967296)) + x13)) - (IntKind.u64.wrap (x15 * x2)))) x9)) * x9)))) (IntKind.u64.wrap ((IntKind.u64.wrap ((IntKind.u64.wrap (x11 * 4294967296)) + x13)) - (IntKind.u64.wrap (x15 * x2)))) (IntKind.u64.wrap (Int.tdiv (IntKind.u64.wrap ((IntKind.u64.wrap ((IntKind.u64.wrap (x11 * 4294967296)) + x13)) - (IntKind.u64.wrap (x15 * x2)))) x9)))
def bits_Div64.l1 : Nat → Int → Int → Int → Int → Int → Int → Int → Int → Int → Option (Int × Int)
  | 0, _, _, _, _, _, _, _, _, _ => none
  | k + 1, x2, x8, x9, x10, x14, x15, x16, x17, x18 => if x18 ≥ 4294967296 then (bits_Div64.j4 k x2 x8 x9 x10 x14 x15 x16 x17 x18 true) else (bits_Div64.j4 k x2 x8 x9 x10 x14 x15 x16 x17 x18 (decide ((IntKind.u64.wrap (x18 * x10)) > (IntKind.u64.wrap ((IntKind.u64.wrap (4294967296 * x16)) + x14)))))
def bits_Div64.j4 : Nat → Int → Int → Int → Int → Int → Int → Int → Int → Int → Bool → Option (Int × Int)
  | 0, _, _, _, _, _, _, _, _, _, _ => none
  | k + 1, x2, x8, x9, x10, x14, x15, x16, x17, x18, x113 => if x113 = true then (if (IntKind.u64.wrap (x16 + x9)) ≥ 4294967296 then (if 0 ≤ x8 then (some (IntKind.u64.wrap ((IntKind.u64.wrap (x15 * 4294967296)) + (IntKind.u64.wrap (x18 - 1))), shr .u64 (IntKind.u64.wrap ((IntKind.u64.wrap ((IntKind.u64.wrap (x17 * 4294967296)) + x14)) - (IntKind.u64.wrap ((IntKind.u64.wrap (x18 - 1)) * x2)))) x8)) else (none)) else (bits_Div64.l1 k x2 x8 x9 x10 x14 x15 (IntKind.u64.wrap (x16 + x9)) x17 (IntKind.u64.wrap (x18 - 1)))) else (if 0 ≤ x8 then (some (IntKind.u64.wrap ((IntKind.u64.wrap (x15 * 4294967296)) + x18), shr .u64 (IntKind.u64.wrap ((IntKind.u64.wrap ((IntKind.u64.wrap (x17 * 4294967296)) + x14)) - (IntKind.u64.wrap (x18 * x2)))) x8)) else (none))
def bits_Div64.l0 : Nat → Int → Int → Int → Int → Int → Int → Int → Int → Int → Option (Int × Int)
  | 0, _, _, _, _, _, _, _, _, _ => none
  | k + 1, x2, x8, x9, x10, x11, x13, x14, x15, x16 => if x15 ≥ 4294967296 then (bits_Div64.j1 k x2 x8 x9 x10 x11 x13 x14 x15 x16 true) else (bits_Div64.j1 k x2 x8 x9 x10 x11 x13 x14 x15 x16 (decide ((IntKind.u64.wrap (x15 * x10)) > (IntKind.u64.wrap ((IntKind.u64.wrap (4294967296 * x16)) + x13)))))
def bits_Div64.j1 : Nat → Int → Int → Int → Int → Int → Int → Int → Int → Int → Bool → Option (Int × Int)
  | 0, _, _, _, _, _, _, _, _, _, _ => none
  | k + 1, x2, x8, x9, x10, x11, x13, x14, x15, x16, x78 => if x78 = true then (if (IntKind.u64.wrap (x16 + x9)) ≥ 4294967296 then (bits_Div64.j2 k x2 x8 x9 x10 x11 x13 x14 (IntKind.u64.wrap (x15 - 1))) else (bits_Div64.l0 k x2 x8 x9 x10 x11 x13 x14 (IntKind.u64.wrap (x15 - 1)) (IntKind.u64.wrap (x16 + x9)))) else (bits_Div64.j2 k x2 x8 x9 x10 x11 x13 x14 x15)
end
def bits_Div64.f (k : Nat) (a0 : Int) (a1 : Int) (a2 : Int) : Option (Int × Int) := if a2 = 0 then (none) else (if a2 ≤ a0 then (none) else (if a0 = 0 then (some (IntKind.u64.wrap (Int.tdiv a1 a2), Int.tmod a1 a2)) else ((bits_LeadingZeros64.f k a2).bind fun t251 => (if 0 ≤ (IntKind.u64.wrap (t251)) then (if 0 ≤ (IntKind.u64.wrap (64 - (IntKind.u64.wrap (t251)))) then (if ((shl .u64 a2 (IntKind.u64.wrap (t251))) / 4294967296) = 0 then (none) else (bits_Div64.l0 k (shl .u64 a2 (IntKind.u64.wrap (t251))) (IntKind.u64.wrap (t251)) ((shl .u64 a2 (IntKind.u64.wrap (t251))) / 4294967296) (Go.bits .and .u64 (shl .u64 a2 (IntKind.u64.wrap (t251))) 4294967295) (Go.bits .or .u64 (shl .u64 a0 (IntKind.u64.wrap (t251))) (shr .u64 a1 (IntKind.u64.wrap (64 - (IntKind.u64.wrap (t251)))))) ((shl .u64 a1 (IntKind.u64.wrap (t251))) / 4294967296) (Go.bits .and .u64 (shl .u64 a1 (IntKind.u64.wrap (t251))) 4294967295) (IntKind.u64.wrap (Int.tdiv (Go.bits .or .u64 (shl .u64 a0 (IntKind.u64.wrap (t251))) (shr .u64 a1 (IntKind.u64.wrap (64 - (IntKind.u64.wrap (t251)))))) ((shl .u64 a2 (IntKind.u64.wrap (t251))) / 4294967296))) (IntKind.u64.wrap ((Go.bits .or .u64 (shl .u64 a0 (IntKind.u64.wrap (t251))) (shr .u64 a1 (IntKind.u64.wrap (64 - (IntKind.u64.wrap (t251)))))) - (IntKind.u64.wrap ((IntKind.u64.wrap (Int.tdiv (Go.bits .or .u64 (shl .u64 a0 (IntKind.u64.wrap (t251))) (shr .u64 a1 (IntKind.u64.wrap (64 - (IntKind.u64.wrap (t251)))))) ((shl .u64 a2 (IntKind.u64.wrap (t251))) / 4294967296))) * ((shl .u64 a2 (IntKind.u64.wrap (t251))) / 4294967296))))))) else (none)) else (none)))))
theorem bits_Div64.mono_l : ∀ k, (∀ y0 y1 y2 y3 y4 y5 y6 y7, LeO (bits_Div64.j2 k y0 y1 y2 y3 y4 y5 y6 y7) (bits_Div64.j2 (k + 1) y0 y1 y2 y3 y4 y5 y6 y7)) ∧ (∀ y0 y1 y2 y3 y4 y5 y6 y7 y8, LeO (bits_Div64.l1 k y0 y1 y2 y3 y4 y5 y6 y7 y8) (bits_Div64.l1 (k + 1) y0 y1 y2 y3 y4 y5 y6 y7 y8)) ∧ (∀ y0 y1 y2 y3 y4 y5 y6 y7 y8 y9, LeO (bits_Div64.j4 k y0 y1 y2 y3 y4 y5 y6 y7 y8 y9) (bits_Div64.j4 (k + 1) y0 y1 y2 y3 y4 y5 y6 y7 y8 y9)) ∧ (∀ y0 y1 y2 y3 y4 y5 y6 y7 y8, LeO (bits_Div64.l0 k y0 y1 y2 y3 y4 y5 y6 y7 y8) (bits_Div64.l0 (k + 1) y0 y1 y2 y3 y4 y5 y6 y7 y8)) ∧ (∀ y0 y1 y2 y3 y4 y5 y6 y7 y8 y9, LeO (bits_Div64.j1 k y0 y1 y2 y3 y4 y5 y6 y7 y8 y9) (bits_Div64.j1 (k + 1) y0 y1 y2 y3 y4 y5 y6 y7 y8 y9))
  | 0 => ⟨fun _ _ _ _ _ _ _ _ r h => by simp [bits_Div64.j2] at h, fun _ _ _ _ _ _ _ _ _ r h => by simp [bits_Div64.l1] at h, fun _ _ _ _ _ _ _ _ _ _ r h => by simp [bits_Div64.j4] at h, fun _ _ _ _ _ _ _ _ _ r h => by simp [bits_Div64.l0] at h, fun _ _ _ _ _ _ _ _ _ _ r h => by simp [bits_Div64.j1] at h⟩
  | k + 1 => by
    obtain ⟨ih0, ih1, ih2, ih3, ih4⟩ := bits_Div64.mono_l k
    refine ⟨?_, ?_, ?_, ?_, ?_⟩
    · intro y0 y1 y2 y3 y4 y5 y6 y7
      unfold bits_Div64.j2
      repeat' first
      | (with_reducible exact ih0 _ _ _ _ _ _ _ _)
      | (with_reducible exact ih1 _ _ _ _ _ _ _ _ _)
      | (with_reducible exact ih2 _ _ _ _ _ _ _ _ _ _)
      | (with_reducible exact ih3 _ _ _ _ _ _ _ _ _)
      | (with_reducible exact ih4 _ _ _ _ _ _ _ _ _ _)
      | (with_reducible exact bits_LeadingZeros64.mono _ _)
      | (with_reducible exact LeO.refl _)
      | (with_reducible exact LeO.none _)
      | (with_reducible refine LeO.ite ?_ ?_)
      | (with_reducible refine LeO.bind ?_ (fun _ => ?_))
      | exact ih0 _ _ _ _ _ _ _ _
      | exact ih1 _ _ _ _ _ _ _ _ _
      | exact ih2 _ _ _ _ _ _ _ _ _ _
      | exact ih3 _ _ _ _ _ _ _ _ _
      | exact ih4 _ _ _ _ _ _ _ _ _ _
      | exact bits_LeadingZeros64.mono _ _
      | exact LeO.none _
      | refine LeO.ite ?_ ?_
      | refine LeO.bind ?_ (fun _ => ?_)
    · intro y0 y1 y2 y3 y4 y5 y6 y7 y8
      unfold bits_Div64.l1
      repeat' first
      | (with_reducible exact ih0 _ _ _ _ _ _ _ _)
      | (with_reducible exact ih1 _ _ _ _ _ _ _ _ _)
      | (with_reducible exact ih2 _ _ _ _ _ _ _ _ _ _)
      | (with_reducible exact ih3 _ _ _ _ _ _ _ _ _)
      | (with_reducible exact ih4 _ _ _ _ _ _ _ _ _ _)
      | (with_reducible exact bits_LeadingZeros64.mono _ _)
      | (with_reducible exact LeO.refl _)
      | (with_reducible exact LeO.none _)
      | (with_reducible refine LeO.ite ?_ ?_)
      | (with_reducible refine LeO.bind ?_ (fun _ => ?_))
      | exact ih0 _ _ _ _ _ _ _ _
      | exact ih1 _ _ _ _ _ _ _ _ _
      | exact ih2 _ _ _ _ _ _ _ _ _ _
      | exact ih3 _ _ _ _ _ _ _ _ _
      | exact ih4 _ _ _ _ _ _ _ _ _ _
      | exact bits_LeadingZeros64.mono _ _
      | exact LeO.none _
      | refine LeO.ite ?_ ?_
      | refine LeO.bind ?_ (fun _ => ?_)
    · intro y0 y1 y2 y3 y4 y5 y6 y7 y8 y9
      unfold bits_Div64.j4
      repeat' first
      | (with_reducible exact ih0 _ _ _ _ _ _ _ _)
      | (with_reducible exact ih1 _ _ _ _ _ _ _ _ _)
      | (with_reducible exact ih2 _ _ _ _ _ _ _ _ _ _)
      | (with_reducible exact ih3 _ _ _ _ _ _ _ _ _)
      | (with_reducible exact ih4 _ _ _ _ _ _ _ _ _ _)
      | (with_reducible exact bits_LeadingZeros64.mono _ _)
      | (with_reducible exact LeO.refl _)
      | (with_reducible exact LeO.none _)
      | (with_reducible refine LeO.ite ?_ ?_)
      | (with_reducible refine LeO.bind ?_ (fun _ => ?_))
      | exact ih0 _ _ _ _ _ _ _ _
      | exact ih1 _ _ _ _ _ _ _ _ _
      | exact ih2 _ _ _ _ _ _ _ _ _ _
      | exact ih3 _ _ _ _ _ _ _ _ _
      | exact ih4 _ _ _ _ _ _ _ _ _ _
      | exact bits_LeadingZeros64.mono _ _
      | exact LeO.none _
      | refine LeO.ite ?_ ?_
      | refine LeO.bind ?_ (fun _ => ?_)
    · intro y0 y1 y2 y3 y4 y5 y6 y7 y8
      unfold bits_Div64.l0
      repeat' first
      | (with_reducible exact ih0 _ _ _ _ _ _ _ _)
      | (with_reducible exact ih1 _ _ _ _ _ _ _ _ _)
      | (with_reducible exact ih2 _ _ _ _ _ _ _ _ _ _)
      | (with_reducible exact ih3 _ _ _ _ _ _ _ _ _)
      | (with_reducible exact ih4 _ _ _ _ _ _ _ _ _ _)
      | (with_reducible exact bits_LeadingZeros64.mono _ _)
      | (with_reducible exact LeO.refl _)
      | (with_reducible exact LeO.none _)
      | (with_reducible refine LeO.ite ?_ ?_)
      | (with_reducible refine LeO.bind ?_ (fun _ => ?_))
      | exact ih0 _ _ _ _ _ _ _ _
      | exact ih1 _ _ _ _ _ _ _ _ _
      | exact ih2 _ _ _ _ _ _ _ _ _ _
      | exact ih3 _ _ _ _ _ _ _ _ _
      | exact ih4 _ _ _ _ _ _ _ _ _ _
      | exact bits_LeadingZeros64.mono _ _
      | exact LeO.none _
      | refine LeO.ite ?_ ?_
      | refine LeO.bind ?_ (fun _ => ?_)
    · intro y0 y1 y2 y3 y4 y5 y6 y7 y8 y9
      unfold bits_Div64.j1
      repeat' first
      | (with_reducible exact ih0 _ _ _ _ _ _ _ _)
      | (with_reducible exact ih1 _ _ _ _ _ _ _ _ _)
      | (with_reducible exact ih2 _ _ _ _ _ _ _ _ _ _)
      | (with_reducible exact ih3 _ _ _ _ _ _ _ _ _)
      | (with_reducible exact ih4 _ _ _ _ _ _ _ _ _ _)
      | (with_reducible exact bits_LeadingZeros64.mono _ _)
      | (with_reducible exact LeO.refl _)
      | (with_reducible exact LeO.none _)
      | (with_reducible refine LeO.ite ?_ ?_)
      | (with_reducible refine LeO.bind ?_ (fun _ => ?_))
      | exact ih0 _ _ _ _ _ _ _ _
      | exact ih1 _ _ _ _ _ _ _ _ _
      | exact ih2 _ _ _ _ _ _ _ _ _ _
      | exact ih3 _ _ _ _ _ _ _ _ _
      | exact ih4 _ _ _ _ _ _ _ _ _ _
      | exact bits_LeadingZeros64.mono _ _
      | exact LeO.none _
      | refine LeO.ite ?_ ?_
      | refine LeO.bind ?_ (fun _ => ?_)
theorem bits_Div64.mono : ∀ a0 a1 a2 k, LeO (bits_Div64.f k a0 a1 a2) (bits_Div64.f (k + 1) a0 a1 a2) := by
  intro a0 a1 a2 k
  obtain ⟨ih0, ih1, ih2, ih3, ih4⟩ := bits_Div64.mono_l k
  unfold bits_Div64.f
  repeat' first
      | (with_reducible exact ih0 _ _ _ _ _ _ _ _)
      | (with_reducible exact ih1 _ _ _ _ _ _ _ _ _)
      | (with_reducible exact ih2 _ _ _ _ _ _ _ _ _ _)
      | (with_reducible exact ih3 _ _ _ _ _ _ _ _ _)
      | (with_reducible exact ih4 _ _ _ _ _ _ _ _ _ _)
      | (with_reducible exact bits_LeadingZeros64.mono _ _)
      | (with_reducible exact LeO.refl _)
      | (with_reducible exact LeO.none _)
      | (with_reducible refine LeO.ite ?_ ?_)
      | (with_reducible refine LeO.bind ?_ (fun _ => ?_))
      | exact ih0 _ _ _ _ _ _ _ _
      | exact ih1 _ _ _ _ _ _ _ _ _
      | exact ih2 _ _ _ _ _ _ _ _ _ _
      | exact ih3 _ _ _ _ _ _ _ _ _
      | exact ih4 _ _ _ _ _ _ _ _ _ _
      | exact bits_LeadingZeros64.mono _ _
      | exact LeO.none _
      | refine LeO.ite ?_ ?_
      | refine LeO.bind ?_ (fun _ => ?_)
set_option maxHeartbeats 8000000 in
set_option maxRecDepth 100000 in
theorem bits_Div64.calls (k : Nat) (a0 : Int) (a1 : Int) (a2 : Int) (r1 : Int) (r2 : Int) (w : World) (h : bits_Div64.f k a0 a1 a2 = some (r1, r2)) :
    Calls Try.prog 68 #[.int .u64 a0, .int .u64 a1, .int .u64 a2] w fun e w' => e = .returned (.tuple #[.int .u64 r1, .int .u64 r2]) ∧ Drawn0 w w' := by
  have H : (if a2 = 0 then (none) else (if a2 ≤ a0 then (none) else (if a0 = 0 then (some (IntKind.u64.wrap (Int.tdiv a1 a2), Int.tmod a1 a2)) else ((bits_LeadingZeros64.f k a2).bind fun t251 => (if 0 ≤ (IntKind.u64.wrap (t251)) then (if 0 ≤ (IntKind.u64.wrap (64 - (IntKind.u64.wrap (t251)))) then (if ((shl .u64 a2 (IntKind.u64.wrap (t251))) / 4294967296) = 0 then (none) else (bits_Div64.l0 k (shl .u64 a2 (IntKind.u64.wrap (t251))) (IntKind.u64.wrap (t251)) ((shl .u64 a2 (IntKind.u64.wrap (t251))) / 4294967296) (Go.bits .and .u64 (shl .u64 a2 (IntKind.u64.wrap (t251))) 4294967295) (Go.bits .or .u64 (shl .u64 a0 (IntKind.u64.wrap (t251))) (shr .u64 a1 (IntKind.u64.wrap (64 - (IntKind.u64.wrap (t251)))))) ((shl .u64 a1 (IntKind.u64.wrap (t251))) / 4294967296) (Go.bits .and .u64 (shl .u64 a1 (IntKind.u64.wrap (t251))) 4294967295) (IntKind.u64.wrap (Int.tdiv (Go.bits .or .u64 (shl .u64 a0 (IntKind.u64.wrap (t251))) (shr .u64 a1 (IntKind.u64.wrap (64 - (IntKind.u64.wrap (t251)))))) ((shl .u64 a2 (IntKind.u64.wrap (t251))) / 4294967296))) (IntKind.u64.wrap ((Go.bits .or .u64 (shl .u64 a0 (IntKind.u64.wrap (t251))) (shr .u64 a1 (IntKind.u64.wrap (64 - (IntKind.u64.wrap (t251)))))) - (IntKind.u64.wrap ((IntKind.u64.wrap (Int.tdiv (Go.bits .or .u64 (shl .u64 a0 (IntKind.u64.wrap (t251))) (shr .u64 a1 (IntKind.u64.wrap (64 - (IntKind.u64.wrap (t251)))))) ((shl .u64 a2 (IntKind.u64.wrap (t251))) / 4294967296))) * ((shl .u64 a2 (IntKind.u64.wrap (t251))) / 4294967296))))))) else (none)) else (none)))))) = some (r1, r2) := h
  clear h
  by_cases c4 : a2 = 0
  · rw [if_pos c4] at H
    exact absurd H (by simp)
  · rw [if_neg c4] at H
    have c4b0 : (a2 == 0) = false := beq_eq_false_iff_ne.mpr c4
    have c4b1 : (a2 != 0) = true := bne_iff_ne.mpr c4
    by_cases c5 : a2 ≤ a0
    · rw [if_pos c5] at H
      exact absurd H (by simp)
    · rw [if_neg c5] at H
      have c5b0 : decide (a2 ≤ a0) = false := decide_eq_false c5
      clear c5
      by_cases c6 : a0 = 0
      · rw [if_pos c6] at H
        have c6b0 : (a0 == 0) = true := beq_iff_eq.mpr c6
        have c6b1 : (a0 != 0) = false := bne_eq_false_iff_eq.mpr c6
        clear c6
        simp only [Option.some.injEq, Prod.mk.injEq] at H
        obtain ⟨rfl, rfl⟩ := H
        go_enter Try.func68, Try.ntmps68
        go_wp2
        repeat (go_quiet (fail); try go_wp2)
        go_ret2
        exact ⟨by first | rfl | (simp; done) | (simp [*]; done), by repeat (first | exact Drawn0.refl _ | apply Drawn0.step)⟩
      · rw [if_neg c6] at H
        have c6b0 : (a0 == 0) = false := beq_eq_false_iff_ne.mpr c6
        have c6b1 : (a0 != 0) = true := bne_iff_ne.mpr c6
        replace H := Option.bind_eq_some_iff.mp H
        obtain ⟨t251, A70, H⟩ := H
        replace H : (if 0 ≤ (IntKind.u64.wrap (t251)) then (if 0 ≤ (IntKind.u64.wrap (64 - (IntKind.u64.wrap (t251)))) then (if ((shl .u64 a2 (IntKind.u64.wrap (t251))) / 4294967296) = 0 then (none) else (bits_Div64.l0 k (shl .u64 a2 (IntKind.u64.wrap (t251))) (IntKind.u64.wrap (t251)) ((shl .u64 a2 (IntKind.u64.wrap (t251))) / 4294967296) (Go.bits .and .u64 (shl .u64 a2 (IntKind.u64.wrap (t251))) 4294967295) (Go.bits .or .u64 (shl .u64 a0 (IntKind.u64.wrap (t251))) (shr .u64 a1 (IntKind.u64.wrap (64 - (IntKind.u64.wrap (t251)))))) ((shl .u64 a1 (IntKind.u64.wrap (t251))) / 4294967296) (Go.bits .and .u64 (shl .u64 a1 (IntKind.u64.wrap (t251))) 4294967295) (IntKind.u64.wrap (Int.tdiv (Go.bits .or .u64 (shl .u64 a0 (IntKind.u64.wrap (t251))) (shr .u64 a1 (IntKind.u64.wrap (64 - (IntKind.u64.wrap (t251)))))) ((shl .u64 a2 (IntKind.u64.wrap (t251))) / 4294967296))) (IntKind.u64.wrap ((Go.bits .or .u64 (shl .u64 a0 (IntKind.u64.wrap (t251))) (shr .u64 a1 (IntKind.u64.wrap (64 - (IntKind.u64.wrap (t251)))))) - (IntKind.u64.wrap ((IntKind.u64.wrap (Int.tdiv (Go.bits .or .u64 (shl .u64 a0 (IntKind.u64.wrap (t251))) (shr .u64 a1 (IntKind.u64.wrap (64 - (IntKind.u64.wrap (t251)))))) ((shl .u64 a2 (IntKind.u64.wrap (t251))) / 4294967296))) * ((shl .u64 a2 (IntKind.u64.wrap (t251))) / 4294967296))))))) else (none)) else (none)) = some (r1, r2) := H
        have A7 := Aside0.mk A70
        clear A70
        obtain ⟨ji8, hji8⟩ : ∃ j_ : Int, (IntKind.u64.wrap (t251)) = j_ := ⟨_, rfl⟩
        replace H : (if 0 ≤ (ji8) then (if 0 ≤ (IntKind.u64.wrap (64 - (ji8))) then (if ((shl .u64 a2 (ji8)) / 4294967296) = 0 then (none) else (bits_Div64.l0 k (shl .u64 a2 (ji8)) ji8 ((shl .u64 a2 (ji8)) / 4294967296) (Go.bits .and .u64 (shl .u64 a2 (ji8)) 4294967295) (Go.bits .or .u64 (shl .u64 a0 (ji8)) (shr .u64 a1 (IntKind.u64.wrap (64 - (ji8))))) ((shl .u64 a1 (ji8)) / 4294967296) (Go.bits .and .u64 (shl .u64 a1 (ji8)) 4294967295) (IntKind.u64.wrap (Int.tdiv (Go.bits .or .u64 (shl .u64 a0 (ji8)) (shr .u64 a1 (IntKind.u64.wrap (64 - (ji8))))) ((shl .u64 a2 (ji8)) / 4294967296))) (IntKind.u64.wrap ((Go.bits .or .u64 (shl .u64 a0 (ji8)) (shr .u64 a1 (IntKind.u64.wrap (64 - (ji8))))) - (IntKind.u64.wrap ((IntKind.u64.wrap (Int.tdiv (Go.bits .or .u64 (shl .u64 a0 (ji8)) (shr .u64 a1 (IntKind.u64.wrap (64 - (ji8))))) ((shl .u64 a2 (ji8)) / 4294967296))) * ((shl .u64 a2 (ji8)) / 4294967296))))))) else (none)) else (none)) = some (r1, r2) := by first | (rw [hji8] at H; exact H) | (simp only [hji8] at H ⊢; exact H)
        (try rw [hji8] at A7)
        by_cases c9 : 0 ≤ (ji8)
        · rw [if_pos c9] at H
          have c9b0 := eq_true c9
          have c9b1 : decide (0 ≤ (ji8)) = true := decide_eq_true c9
          clear c9
          obtain ⟨ji10, hji10⟩ : ∃ j_ : Int, (shl .u64 a2 (ji8)) = j_ := ⟨_, rfl⟩
          replace H : (if 0 ≤ (IntKind.u64.wrap (64 - (ji8))) then (if ((ji10) / 4294967296) = 0 then (none) else (bits_Div64.l0 k ji10 ji8 ((ji10) / 4294967296) (Go.bits .and .u64 (ji10) 4294967295) (Go.bits .or .u64 (shl .u64 a0 (ji8)) (shr .u64 a1 (IntKind.u64.wrap (64 - (ji8))))) ((shl .u64 a1 (ji8)) / 4294967296) (Go.bits .and .u64 (shl .u64 a1 (ji8)) 4294967295) (IntKind.u64.wrap (Int.tdiv (Go.bits .or .u64 (shl .u64 a0 (ji8)) (shr .u64 a1 (IntKind.u64.wrap (64 - (ji8))))) ((ji10) / 4294967296))) (IntKind.u64.wrap ((Go.bits .or .u64 (shl .u64 a0 (ji8)) (shr .u64 a1 (IntKind.u64.wrap (64 - (ji8))))) - (IntKind.u64.wrap ((IntKind.u64.wrap (Int.tdiv (Go.bits .or .u64 (shl .u64 a0 (ji8)) (shr .u64 a1 (IntKind.u64.wrap (64 - (ji8))))) ((ji10) / 4294967296))) * ((ji10) / 4294967296))))))) else (none)) = some (r1, r2) := by first | (rw [hji10] at H; exact H) | (simp only [hji10] at H ⊢; exact H)
          (try rw [hji10] at A7)
          have hji10_ : (IntKind.u64.wrap (a2 * 2 ^ min (ji8).toNat 64)) = ji10 := hji10
          have hji10z : (ji8) ≤ 64 → (IntKind.u64.wrap (a2 * 2 ^ (ji8).toNat)) = ji10 := shl_small hji10
          have c11b0 := eq_true (of_decide_eq_true (by first | (with_reducible assumption) | assumption) : 0 ≤ (ji8))
          obtain ⟨ji12, hji12⟩ : ∃ j_ : Int, (shl .u64 a0 (ji8)) = j_ := ⟨_, rfl⟩
          replace H : (if 0 ≤ (IntKind.u64.wrap (64 - (ji8))) then (if ((ji10) / 4294967296) = 0 then (none) else (bits_Div64.l0 k ji10 ji8 ((ji10) / 4294967296) (Go.bits .and .u64 (ji10) 4294967295) (Go.bits .or .u64 (ji12) (shr .u64 a1 (IntKind.u64.wrap (64 - (ji8))))) ((shl .u64 a1 (ji8)) / 4294967296) (Go.bits .and .u64 (shl .u64 a1 (ji8)) 4294967295) (IntKind.u64.wrap (Int.tdiv (Go.bits .or .u64 (ji12) (shr .u64 a1 (IntKind.u64.wrap (64 - (ji8))))) ((ji10) / 4294967296))) (IntKind.u64.wrap ((Go.bits .or .u64 (ji12) (shr .u64 a1 (IntKind.u64.wrap (64 - (ji8))))) - (IntKind.u64.wrap ((IntKind.u64.wrap (Int.tdiv (Go.bits .or .u64 (ji12) (shr .u64 a1 (IntKind.u64.wrap (64 - (ji8))))) ((ji10) / 4294967296))) * ((ji10) / 4294967296))))))) else (none)) = some (r1, r2) := by first | (rw [hji12] at H; exact H) | (simp only [hji12] at H ⊢; exact H)
          (try rw [hji12] at A7)
          have hji12_ : (IntKind.u64.wrap (a0 * 2 ^ min (ji8).toNat 64)) = ji12 := hji12
          have hji12z : (ji8) ≤ 64 → (IntKind.u64.wrap (a0 * 2 ^ (ji8).toNat)) = ji12 := shl_small hji12
          obtain ⟨ji13, hji13⟩ : ∃ j_ : Int, (IntKind.u64.wrap (64 - (ji8))) = j_ := ⟨_, rfl⟩
          replace H : (if 0 ≤ (ji13) then (if ((ji10) / 4294967296) = 0 then (none) else (bits_Div64.l0 k ji10 ji8 ((ji10) / 4294967296) (Go.bits .and .u64 (ji10) 4294967295) (Go.bits .or .u64 (ji12) (shr .u64 a1 (ji13))) ((shl .u64 a1 (ji8)) / 4294967296) (Go.bits .and .u64 (shl .u64 a1 (ji8)) 4294967295) (IntKind.u64.wrap (Int.tdiv (Go.bits .or .u64 (ji12) (shr .u64 a1 (ji13))) ((ji10) / 4294967296))) (IntKind.u64.wrap ((Go.bits .or .u64 (ji12) (shr .u64 a1 (ji13))) - (IntKind.u64.wrap ((IntKind.u64.wrap (Int.tdiv (Go.bits .or .u64 (ji12) (shr .u64 a1 (ji13))) ((ji10) / 4294967296))) * ((ji10) / 4294967296))))))) else (none)) = some (r1, r2) := by first | (rw [hji13] at H; exact H) | (simp only [hji13] at H ⊢; exact H)
          (try rw [hji13] at A7)
          by_cases c14 : 0 ≤ (ji13)
          · rw [if_pos c14] at H
            have c14b0 := eq_true c14
            have c14b1 : decide (0 ≤ (ji13)) = true := decide_eq_true c14
            clear c14
            obtain ⟨ji15, hji15⟩ : ∃ j_ : Int, (shr .u64 a1 (ji13)) = j_ := ⟨_, rfl⟩
            replace H : (if ((ji10) / 4294967296) = 0 then (none) else (bits_Div64.l0 k ji10 ji8 ((ji10) / 4294967296) (Go.bits .and .u64 (ji10) 4294967295) (Go.bits .or .u64 (ji12) (ji15)) ((shl .u64 a1 (ji8)) / 4294967296) (Go.bits .and .u64 (shl .u64 a1 (ji8)) 4294967295) (IntKind.u64.wrap (Int.tdiv (Go.bits .or .u64 (ji12) (ji15)) ((ji10) / 4294967296))) (IntKind.u64.wrap ((Go.bits .or .u64 (ji12) (ji15)) - (IntKind.u64.wrap ((IntKind.u64.wrap (Int.tdiv (Go.bits .or .u64 (ji12) (ji15)) ((ji10) / 4294967296))) * ((ji10) / 4294967296))))))) = some (r1, r2) := by first | (rw [hji15] at H; exact H) | (simp only [hji15] at H ⊢; exact H)
            (try rw [hji15] at A7)
            have hji15_ : (a1 / 2 ^ min (ji13).toNat 64) = ji15 := hji15
            have hji15z : (ji13) ≤ 64 → (a1 / 2 ^ (ji13).toNat) = ji15 := shr_small hji15
            have c16b0 := eq_true (of_decide_eq_true (by first | (with_reducible assumption) | assumption) : 0 ≤ (ji8))
            obtain ⟨ji17, hji17⟩ : ∃ j_ : Int, (shl .u64 a1 (ji8)) = j_ := ⟨_, rfl⟩
            replace H : (if ((ji10) / 4294967296) = 0 then (none) else (bits_Div64.l0 k ji10 ji8 ((ji10) / 4294967296) (Go.bits .and .u64 (ji10) 4294967295) (Go.bits .or .u64 (ji12) (ji15)) ((ji17) / 4294967296) (Go.bits .and .u64 (ji17) 4294967295) (IntKind.u64.wrap (Int.tdiv (Go.bits .or .u64 (ji12) (ji15)) ((ji10) / 4294967296))) (IntKind.u64.wrap ((Go.bits .or .u64 (ji12) (ji15)) - (IntKind.u64.wrap ((IntKind.u64.wrap (Int.tdiv (Go.bits .or .u64 (ji12) (ji15)) ((ji10) / 4294967296))) * ((ji10) / 4294967296))))))) = some (r1, r2) := by first | (rw [hji17] at H; exact H) | (simp only [hji17] at H ⊢; exact H)
            (try rw [hji17] at A7)
            have hji17_ : (IntKind.u64.wrap (a1 * 2 ^ min (ji8).toNat 64)) = ji17 := hji17
            have hji17z : (ji8) ≤ 64 → (IntKind.u64.wrap (a1 * 2 ^ (ji8).toNat)) = ji17 := shl_small hji17
            by_cases c18 : ((ji10) / 4294967296) = 0
            · rw [if_pos c18] at H
              exact absurd H (by simp)
            · rw [if_neg c18] at H
              have c18b0 : (((ji10) / 4294967296) == 0) = false := beq_eq_false_iff_ne.mpr c18
              have c18b1 : (((ji10) / 4294967296) != 0) = true := bne_iff_ne.mpr c18
              have HC19 := Aside0.mk H
              clear H
              go_enter Try.func68, Try.ntmps68
              go_upto_block 0 with (first | (go_at_call 70; (with_reducible refine (bits_LeadingZeros64.calls k a2 t251 _ A7.out).mono ?_); rintro e w' ⟨rfl, ⟨nd, rfl⟩⟩; (try first | exact ⟨rfl, _, World.drewN_drewN _ _ _⟩ | exact ⟨rfl, _, Eq.trans (World.drewN_drewN _ _ _) (congrArg (World.drewN _) (Nat.add_assoc _ _ _))⟩)))
              repeat (go_quiet (first | (go_at_call 70; (with_reducible refine (bits_LeadingZeros64.calls k a2 t251 _ A7.out).mono ?_); rintro e w' ⟨rfl, ⟨nd, rfl⟩⟩; (try first | exact ⟨rfl, _, World.drewN_drewN _ _ _⟩ | exact ⟨rfl, _, Eq.trans (World.drewN_drewN _ _ _) (congrArg (World.drewN _) (Nat.add_assoc _ _ _))⟩))); go_upto_block 0 with (first | (go_at_call 70; (with_reducible refine (bits_LeadingZeros64.calls k a2 t251 _ A7.out).mono ?_); rintro e w' ⟨rfl, ⟨nd, rfl⟩⟩; (try first | exact ⟨rfl, _, World.drewN_drewN _ _ _⟩ | exact ⟨rfl, _, Eq.trans (World.drewN_drewN _ _ _) (congrArg (World.drewN _) (Nat.add_assoc _ _ _))⟩))))
              (try simp only [Act.put, List.setIfInBounds_toArray, List.set_cons_zero, List.set_cons_succ])
              go_cut [15] (fun v15 wc => ∃ (kq : Nat) (x15_18 : Int), v15 = .int .u64 x15_18 ∧ Aside0 (bits_Div64.j2 kq ji10 ji8 ((ji10) / 4294967296) (Go.bits .and .u64 (ji10) 4294967295) (Go.bits .or .u64 (ji12) (ji15)) ((ji17) / 4294967296) (Go.bits .and .u64 (ji17) 4294967295) x15_18 = some (r1, r2)) ∧ Aside0 (kq ≤ k) ∧ Drawn0 w wc)
              case first =>
                have H := HC19.out
                clear HC19
                have H' := Aside0.mk H
                clear H
                go_wp2
                repeat (go_quiet (fail); try go_wp2)
                go_loopg [15, 16] k (fun kq v15 v16 w' => ∃ (x15_1 : Int) (x16_1 : Int), v15 = .int .u64 x15_1 ∧ v16 = .int .u64 x16_1 ∧ Aside0 (bits_Div64.l0 kq ji10 ji8 ((ji10) / 4294967296) (Go.bits .and .u64 (ji10) 4294967295) (Go.bits .or .u64 (ji12) (ji15)) ((ji17) / 4294967296) (Go.bits .and .u64 (ji17) 4294967295) x15_1 x16_1 = some (r1, r2)) ∧ Aside0 (kq ≤ k) ∧ Drawn0 w w')
                case atStart => exact ⟨(IntKind.u64.wrap (Int.tdiv (Go.bits .or .u64 (ji12) (ji15)) ((ji10) / 4294967296))), (IntKind.u64.wrap ((Go.bits .or .u64 (ji12) (ji15)) - (IntKind.u64.wrap ((IntKind.u64.wrap (Int.tdiv (Go.bits .or .u64 (ji12) (ji15)) ((ji10) / 4294967296))) * ((ji10) / 4294967296))))), (by first | rfl | (simp; done) | (simp only [← hji10, ← hji12, ← hji15] <;> (first | rfl | simp)) | (simp [*]; done)), (by first | rfl | (simp; done) | (simp only [← hji10, ← hji12, ← hji15] <;> (first | rfl | simp)) | (simp [*]; done)), H', ⟨Nat.le_refl _⟩, by repeat (first | exact Drawn0.refl _ | apply Drawn0.step)⟩
                case round =>
                  clear H'
                  try clear c1
                  try clear p2
                  try clear c4
                  try clear c4b0
                  try clear c4b1
                  try clear c5
                  try clear c5b0
                  try clear c6
                  try clear c6b0
                  try clear c6b1
                  try clear c9
                  try clear c9b0
                  try clear c9b1
                  try clear c11
                  try clear c11b0
                  try clear c14
                  try clear c14b0
                  try clear c14b1
                  try clear c16
                  try clear c16b0
                  try clear c18
                  try clear c18b0
                  try clear c18b1
                  obtain ⟨x15_1, x16_1, rfl, rfl, HA, HK1, ⟨m1, rfl⟩⟩ := hrel
                  cases gk with
                  | zero => exact absurd HA.out (by simp [bits_Div64.l0])
                  | succ k1 =>
                    have H := HA.out
                    clear HA
                    simp only [bits_Div64.l0] at H
                    have HC20 := Aside0.mk H
                    clear H
                    go_upto_region 17 with (fail)
                    repeat (go_quiet (fail); go_upto_region 17 with (fail))
                    go_cut [78] (fun v78 wc => ∃ (kq : Nat) (x78_19 : Bool), v78 = .bool x78_19 ∧ Aside0 (bits_Div64.j1 kq ji10 ji8 ((ji10) / 4294967296) (Go.bits .and .u64 (ji10) 4294967295) (Go.bits .or .u64 (ji12) (ji15)) ((ji17) / 4294967296) (Go.bits .and .u64 (ji17) 4294967295) x15_1 x16_1 x78_19 = some (r1, r2)) ∧ Aside0 (kq ≤ k1) ∧ Drawn0 w wc)
                    case first =>
                      have H := HC20.out
                      clear HC20
                      by_cases c21 : x15_1 ≥ 4294967296
                      · rw [if_pos c21] at H
                        have c21b0 : decide (4294967296 ≤ x15_1) = true := decide_eq_true c21
                        clear c21
                        (first | rw [c21b0] | (simp only [i64_w, i32_w]; rw [c21b0]) | skip)
                        have H' := Aside0.mk H
                        clear H
                        go_wp2
                        repeat (go_quiet (fail); try go_wp2)
                        go_meet
                        case rel => exact ⟨_, (true), (by first | rfl | (simp; done) | (simp [*]; done)), H', ⟨by have := HK1.out; first | omega | exact Nat.le_refl _⟩, by repeat (first | exact Drawn0.refl _ | apply Drawn0.step)⟩
                      · rw [if_neg c21] at H
                        have c21b0 : decide (4294967296 ≤ x15_1) = false := decide_eq_false c21
                        clear c21
                        (first | rw [c21b0] | (simp only [i64_w, i32_w]; rw [c21b0]) | skip)
                        have H' := Aside0.mk H
                        clear H
                        go_wp2
                        repeat (go_quiet (fail); try go_wp2)
                        go_meet
                        case rel => exact ⟨_, (decide ((IntKind.u64.wrap (x15_1 * (Go.bits .and .u64 (ji10) 4294967295))) > (IntKind.u64.wrap ((IntKind.u64.wrap (4294967296 * x16_1)) + ((ji17) / 4294967296))))), (by first | rfl | (simp; done) | (simp only [← hji10, ← hji17] <;> (first | rfl | simp)) | (simp [*]; done)), H', ⟨by have := HK1.out; first | omega | exact Nat.le_refl _⟩, by repeat (first | exact Drawn0.refl _ | apply Drawn0.step)⟩
                    case rest =>
                      clear HC20
                      try clear c1
                      try clear c2
                      try clear p2
                      try clear c4
                      try clear c4b0
                      try clear c4b1
                      try clear c5
                      try clear c5b0
                      try clear c6
                      try clear c6b0
                      try clear c6b1
                      try clear c9
                      try clear c9b0
                      try clear c9b1
                      try clear c11
                      try clear c11b0
                      try clear c14
                      try clear c14b0
                      try clear c14b1
                      try clear c16
                      try clear c16b0
                      try clear c18
                      try clear c18b0
                      try clear c18b1
                      try clear c21
                      try clear c21b0
                      try clear p2
                      obtain ⟨kq, x78_19, rfl, HA, HJ19, ⟨mc19, rfl⟩⟩ := hcut
                      cases kq with
                      | zero => exact absurd HA.out (by simp [bits_Div64.j1])
                      | succ kj19 =>
                        have H := HA.out
                        clear HA
                        simp only [bits_Div64.j1] at H
                        by_cases c22 : x78_19 = true
                        · subst c22
                          have H1 : (if (IntKind.u64.wrap (x16_1 + ((ji10) / 4294967296))) ≥ 4294967296 then (bits_Div64.j2 kj19 ji10 ji8 ((ji10) / 4294967296) (Go.bits .and .u64 (ji10) 4294967295) (Go.bits .or .u64 (ji12) (ji15)) ((ji17) / 4294967296) (Go.bits .and .u64 (ji17) 4294967295) (IntKind.u64.wrap (x15_1 - 1))) else (bits_Div64.l0 kj19 ji10 ji8 ((ji10) / 4294967296) (Go.bits .and .u64 (ji10) 4294967295) (Go.bits .or .u64 (ji12) (ji15)) ((ji17) / 4294967296) (Go.bits .and .u64 (ji17) 4294967295) (IntKind.u64.wrap (x15_1 - 1)) (IntKind.u64.wrap (x16_1 + ((ji10) / 4294967296))))) = some (r1, r2) := by rw [if_pos rfl] at H; exact H
                          clear H
                          have H := H1
                          clear H1
                          by_cases c23 : (IntKind.u64.wrap (x16_1 + ((ji10) / 4294967296))) ≥ 4294967296
                          · rw [if_pos c23] at H
                            have c23b0 : decide (4294967296 ≤ (IntKind.u64.wrap (x16_1 + ((ji10) / 4294967296)))) = true := decide_eq_true c23
                            clear c23
                            have H' := Aside0.mk H
                            clear H
                            go_wp2
                            repeat (go_quiet (fail); try go_wp2)
                            go_meet
                            case rel => exact ⟨_, (IntKind.u64.wrap (x15_1 - 1)), (by first | rfl | (simp; done) | (simp [*]; done)), H', ⟨by have := HK1.out; have := HJ19.out; first | omega | exact Nat.le_refl _⟩, by repeat (first | exact Drawn0.refl _ | apply Drawn0.step)⟩
                          · rw [if_neg c23] at H
                            have c23b0 : decide (4294967296 ≤ (IntKind.u64.wrap (x16_1 + ((ji10) / 4294967296)))) = false := decide_eq_false c23
                            clear c23
                            have H' := Aside0.mk H
                            clear H
                            go_wp2
                            repeat (go_quiet (fail); try go_wp2)
                            go_roundg kj19
                            case measure => have := HK1.out; have := HJ19.out; omega
                            case rel => exact ⟨(IntKind.u64.wrap (x15_1 - 1)), (IntKind.u64.wrap (x16_1 + ((ji10) / 4294967296))), (by first | rfl | (simp; done) | (simp [*]; done)), (by first | rfl | (simp; done) | (simp only [← hji10] <;> (first | rfl | simp)) | (simp [*]; done)), H', ⟨by have := HK1.out; have := HJ19.out; omega⟩, by repeat (first | exact Drawn0.refl _ | apply Drawn0.step)⟩
                        · replace c22 := Bool.eq_false_iff.mpr c22
                          subst c22
                          have H1 : (bits_Div64.j2 kj19 ji10 ji8 ((ji10) / 4294967296) (Go.bits .and .u64 (ji10) 4294967295) (Go.bits .or .u64 (ji12) (ji15)) ((ji17) / 4294967296) (Go.bits .and .u64 (ji17) 4294967295) x15_1) = some (r1, r2) := by rw [if_neg (show ¬ (false = true) by decide)] at H; exact H
                          clear H
                          have H := H1
                          clear H1
                          have H' := Aside0.mk H
                          clear H
                          go_wp2
                          repeat (go_quiet (fail); try go_wp2)
                          go_meet
                          case rel => exact ⟨_, (x15_1), (by first | rfl | (simp; done) | (simp [*]; done)), H', ⟨by have := HK1.out; have := HJ19.out; first | omega | exact Nat.le_refl _⟩, by repeat (first | exact Drawn0.refl _ | apply Drawn0.step)⟩
              case rest =>
                clear HC19
                try clear c1
                try clear c2
                try clear p2
                try clear c4
                try clear c4b0
                try clear c4b1
                try clear c5
                try clear c5b0
                try clear c6
                try clear c6b0
                try clear c6b1
                try clear c9
                try clear c9b0
                try clear c9b1
                try clear c11
                try clear c11b0
                try clear c14
                try clear c14b0
                try clear c14b1
                try clear c16
                try clear c16b0
                try clear c18
                try clear c18b0
                try clear c18b1
                try clear c19
                try clear c21
                try clear c21b0
                try clear c22
                try clear c23
                try clear c23b0
                try clear p2
                obtain ⟨kq, x15_18, rfl, HA, HJ18, ⟨mc18, rfl⟩⟩ := hcut
                cases kq with
                | zero => exact absurd HA.out (by simp [bits_Div64.j2])
                | succ kj18 =>
                  have H := HA.out
                  clear HA
                  simp only [bits_Div64.j2] at H
                  by_cases c24 : ((ji10) / 4294967296) = 0
                  · rw [if_pos c24] at H
                    exact absurd H (by simp)
                  · rw [if_neg c24] at H
                    have c24b0 : (((ji10) / 4294967296) == 0) = false := beq_eq_false_iff_ne.mpr c24
                    have c24b1 : (((ji10) / 4294967296) != 0) = true := bne_iff_ne.mpr c24
                    have H' := Aside0.mk H
                    clear H
                    go_wp2
                    repeat (go_quiet (fail); try go_wp2)
                    go_loopg [16, 18] kj18 (fun kq v16 v18 w' => ∃ (x16_2 : Int) (x18_2 : Int), v16 = .int .u64 x16_2 ∧ v18 = .int .u64 x18_2 ∧ Aside0 (bits_Div64.l1 kq ji10 ji8 ((ji10) / 4294967296) (Go.bits .and .u64 (ji10) 4294967295) (Go.bits .and .u64 (ji17) 4294967295) x15_18 x16_2 (IntKind.u64.wrap ((IntKind.u64.wrap ((IntKind.u64.wrap ((Go.bits .or .u64 (ji12) (ji15)) * 4294967296)) + ((ji17) / 4294967296))) - (IntKind.u64.wrap (x15_18 * ji10)))) x18_2 = some (r1, r2)) ∧ Aside0 (kq ≤ kj18) ∧ Drawn0 w w')
                    case atStart => exact ⟨(IntKind.u64.wrap ((IntKind.u64.wrap ((IntKind.u64.wrap ((IntKind.u64.wrap ((Go.bits .or .u64 (ji12) (ji15)) * 4294967296)) + ((ji17) / 4294967296))) - (IntKind.u64.wrap (x15_18 * ji10)))) - (IntKind.u64.wrap ((IntKind.u64.wrap (Int.tdiv (IntKind.u64.wrap ((IntKind.u64.wrap ((IntKind.u64.wrap ((Go.bits .or .u64 (ji12) (ji15)) * 4294967296)) + ((ji17) / 4294967296))) - (IntKind.u64.wrap (x15_18 * ji10)))) ((ji10) / 4294967296))) * ((ji10) / 4294967296))))), (IntKind.u64.wrap (Int.tdiv (IntKind.u64.wrap ((IntKind.u64.wrap ((IntKind.u64.wrap ((Go.bits .or .u64 (ji12) (ji15)) * 4294967296)) + ((ji17) / 4294967296))) - (IntKind.u64.wrap (x15_18 * ji10)))) ((ji10) / 4294967296))), (by first | rfl | (simp; done) | (simp only [← hji10, ← hji12, ← hji15, ← hji17] <;> (first | rfl | simp)) | (simp [*]; done)), (by first | rfl | (simp; done) | (simp only [← hji10, ← hji12, ← hji15, ← hji17] <;> (first | rfl | simp)) | (simp [*]; done)), H', ⟨Nat.le_refl _⟩, by repeat (first | exact Drawn0.refl _ | apply Drawn0.step)⟩
                    case round =>
                      clear H'
                      try clear c1
                      try clear c2
                      try clear p2
                      try clear c4
                      try clear c4b0
                      try clear c4b1
                      try clear c5
                      try clear c5b0
                      try clear c6
                      try clear c6b0
                      try clear c6b1
                      try clear c9
                      try clear c9b0
                      try clear c9b1
                      try clear c11
                      try clear c11b0
                      try clear c14
                      try clear c14b0
                      try clear c14b1
                      try clear c16
                      try clear c16b0
                      try clear c18
                      try clear c18b0
                      try clear c18b1
                      try clear c19
                      try clear c21
                      try clear c21b0
                      try clear c22
                      try clear c23
                      try clear c23b0
                      try clear c24
                      try clear c24b0
                      try clear c24b1
                      try clear p2
                      obtain ⟨x16_2, x18_2, rfl, rfl, HA, HK2, ⟨m2, rfl⟩⟩ := hrel
                      cases gk with
                      | zero => exact absurd HA.out (by simp [bits_Div64.l1])
                      | succ k2 =>
                        have H := HA.out
                        clear HA
                        simp only [bits_Div64.l1] at H
                        have HC25 := Aside0.mk H
                        clear H
                        go_upto_region 24 with (fail)
                        repeat (go_quiet (fail); go_upto_region 24 with (fail))
                        go_cut [113] (fun v113 wc => ∃ (kq : Nat) (x113_24 : Bool), v113 = .bool x113_24 ∧ Aside0 (bits_Div64.j4 kq ji10 ji8 ((ji10) / 4294967296) (Go.bits .and .u64 (ji10) 4294967295) (Go.bits .and .u64 (ji17) 4294967295) x15_18 x16_2 (IntKind.u64.wrap ((IntKind.u64.wrap ((IntKind.u64.wrap ((Go.bits .or .u64 (ji12) (ji15)) * 4294967296)) + ((ji17) / 4294967296))) - (IntKind.u64.wrap (x15_18 * ji10)))) x18_2 x113_24 = some (r1, r2)) ∧ Aside0 (kq ≤ k2) ∧ Drawn0 w wc)
                        case first =>
                          have H := HC25.out
                          clear HC25
                          by_cases c26 : x18_2 ≥ 4294967296
                          · rw [if_pos c26] at H
                            have c26b0 : decide (4294967296 ≤ x18_2) = true := decide_eq_true c26
                            clear c26
                            (first | rw [c26b0] | (simp only [i64_w, i32_w]; rw [c26b0]) | skip)
                            have H' := Aside0.mk H
                            clear H
                            go_wp2
                            repeat (go_quiet (fail); try go_wp2)
                            go_meet
                            case rel => exact ⟨_, (true), (by first | rfl | (simp; done) | (simp [*]; done)), H', ⟨by have := HJ18.out; have := HK2.out; first | omega | exact Nat.le_refl _⟩, by repeat (first | exact Drawn0.refl _ | apply Drawn0.step)⟩
                          · rw [if_neg c26] at H
                            have c26b0 : decide (4294967296 ≤ x18_2) = false := decide_eq_false c26
                            clear c26
                            (first | rw [c26b0] | (simp only [i64_w, i32_w]; rw [c26b0]) | skip)
                            have H' := Aside0.mk H
                            clear H
                            go_wp2
                            repeat (go_quiet (fail); try go_wp2)
                            go_meet
                            case rel => exact ⟨_, (decide ((IntKind.u64.wrap (x18_2 * (Go.bits .and .u64 (ji10) 4294967295))) > (IntKind.u64.wrap ((IntKind.u64.wrap (4294967296 * x16_2)) + (Go.bits .and .u64 (ji17) 4294967295))))), (by first | rfl | (simp; done) | (simp only [← hji10, ← hji17] <;> (first | rfl | simp)) | (simp [*]; done)), H', ⟨by have := HJ18.out; have := HK2.out; first | omega | exact Nat.le_refl _⟩, by repeat (first | exact Drawn0.refl _ | apply Drawn0.step)⟩
                        case rest =>
                          clear HC25
                          try clear c1
                          try clear c2
                          try clear p2
                          try clear c4
                          try clear c4b0
                          try clear c4b1
                          try clear c5
                          try clear c5b0
                          try clear c6
                          try clear c6b0
                          try clear c6b1
                          try clear c9
                          try clear c9b0
                          try clear c9b1
                          try clear c11
                          try clear c11b0
                          try clear c14
                          try clear c14b0
                          try clear c14b1
                          try clear c16
                          try clear c16b0
                          try clear c18
                          try clear c18b0
                          try clear c18b1
                          try clear c19
                          try clear c21
                          try clear c21b0
                          try clear c22
                          try clear c23
                          try clear c23b0
                          try clear c24
                          try clear c24b0
                          try clear c24b1
                          try clear c26
                          try clear c26b0
                          try clear p2
                          obtain ⟨kq, x113_24, rfl, HA, HJ24, ⟨mc24, rfl⟩⟩ := hcut
                          cases kq with
                          | zero => exact absurd HA.out (by simp [bits_Div64.j4])
                          | succ kj24 =>
                            have H := HA.out
                            clear HA
                            simp only [bits_Div64.j4] at H
                            by_cases c27 : x113_24 = true
                            · subst c27
                              have H1 : (if (IntKind.u64.wrap (x16_2 + ((ji10) / 4294967296))) ≥ 4294967296 then (if 0 ≤ ji8 then (some (IntKind.u64.wrap ((IntKind.u64.wrap (x15_18 * 4294967296)) + (IntKind.u64.wrap (x18_2 - 1))), shr .u64 (IntKind.u64.wrap ((IntKind.u64.wrap ((IntKind.u64.wrap ((IntKind.u64.wrap ((IntKind.u64.wrap ((IntKind.u64.wrap ((Go.bits .or .u64 (ji12) (ji15)) * 4294967296)) + ((ji17) / 4294967296))) - (IntKind.u64.wrap (x15_18 * ji10)))) * 4294967296)) + (Go.bits .and .u64 (ji17) 4294967295))) - (IntKind.u64.wrap ((IntKind.u64.wrap (x18_2 - 1)) * ji10)))) ji8)) else (none)) else (bits_Div64.l1 kj24 ji10 ji8 ((ji10) / 4294967296) (Go.bits .and .u64 (ji10) 4294967295) (Go.bits .and .u64 (ji17) 4294967295) x15_18 (IntKind.u64.wrap (x16_2 + ((ji10) / 4294967296))) (IntKind.u64.wrap ((IntKind.u64.wrap ((IntKind.u64.wrap ((Go.bits .or .u64 (ji12) (ji15)) * 4294967296)) + ((ji17) / 4294967296))) - (IntKind.u64.wrap (x15_18 * ji10)))) (IntKind.u64.wrap (x18_2 - 1)))) = some (r1, r2) := by rw [if_pos rfl] at H; exact H
                              clear H
                              have H := H1
                              clear H1
                              by_cases c28 : (IntKind.u64.wrap (x16_2 + ((ji10) / 4294967296))) ≥ 4294967296
                              · rw [if_pos c28] at H
                                have c28b0 : decide (4294967296 ≤ (IntKind.u64.wrap (x16_2 + ((ji10) / 4294967296)))) = true := decide_eq_true c28
                                clear c28
                                by_cases c29 : 0 ≤ ji8
                                · rw [if_pos c29] at H
                                  have c29b0 := eq_true c29
                                  have c29b1 : decide (0 ≤ ji8) = true := decide_eq_true c29
                                  clear c29
                                  obtain ⟨ji30, hji30⟩ : ∃ j_ : Int, (shr .u64 (IntKind.u64.wrap ((IntKind.u64.wrap ((IntKind.u64.wrap ((IntKind.u64.wrap ((IntKind.u64.wrap ((IntKind.u64.wrap ((Go.bits .or .u64 (ji12) (ji15)) * 4294967296)) + ((ji17) / 4294967296))) - (IntKind.u64.wrap (x15_18 * ji10)))) * 4294967296)) + (Go.bits .and .u64 (ji17) 4294967295))) - (IntKind.u64.wrap ((IntKind.u64.wrap (x18_2 - 1)) * ji10)))) ji8) = j_ := ⟨_, rfl⟩
                                  replace H : (some (IntKind.u64.wrap ((IntKind.u64.wrap (x15_18 * 4294967296)) + (IntKind.u64.wrap (x18_2 - 1))), ji30)) = some (r1, r2) := by first | (rw [hji30] at H; exact H) | (simp only [hji30] at H ⊢; exact H)
                                  have hji30_ : ((IntKind.u64.wrap ((IntKind.u64.wrap ((IntKind.u64.wrap ((IntKind.u64.wrap ((IntKind.u64.wrap ((IntKind.u64.wrap ((Go.bits .or .u64 (ji12) (ji15)) * 4294967296)) + ((ji17) / 4294967296))) - (IntKind.u64.wrap (x15_18 * ji10)))) * 4294967296)) + (Go.bits .and .u64 (ji17) 4294967295))) - (IntKind.u64.wrap ((IntKind.u64.wrap (x18_2 - 1)) * ji10)))) / 2 ^ min ji8.toNat 64) = ji30 := hji30
                                  have hji30z : ji8 ≤ 64 → ((IntKind.u64.wrap ((IntKind.u64.wrap ((IntKind.u64.wrap ((IntKind.u64.wrap ((IntKind.u64.wrap ((IntKind.u64.wrap ((Go.bits .or .u64 (ji12) (ji15)) * 4294967296)) + ((ji17) / 4294967296))) - (IntKind.u64.wrap (x15_18 * ji10)))) * 4294967296)) + (Go.bits .and .u64 (ji17) 4294967295))) - (IntKind.u64.wrap ((IntKind.u64.wrap (x18_2 - 1)) * ji10)))) / 2 ^ ji8.toNat) = ji30 := shr_small hji30
                                  simp only [Option.some.injEq, Prod.mk.injEq] at H
                                  obtain ⟨rfl, rfl⟩ := H
                                  go_wp2
                                  repeat (go_quiet (fail); try go_wp2)
                                  go_ret2
                                  exact ⟨by first | rfl | (simp; done) | (simp only [← hji8, ← hji10, ← hji12, ← hji13, ← hji15, ← hji17, ← hji30] <;> (first | rfl | simp)) | (simp [*]; done), by repeat (first | exact Drawn0.refl _ | apply Drawn0.step)⟩
                                · rw [if_neg c29] at H
                                  exact absurd H (by simp)
                              · rw [if_neg c28] at H
                                have c28b0 : decide (4294967296 ≤ (IntKind.u64.wrap (x16_2 + ((ji10) / 4294967296)))) = false := decide_eq_false c28
                                clear c28
                                have H' := Aside0.mk H
                                clear H
                                go_wp2
                                repeat (go_quiet (fail); try go_wp2)
                                go_roundg kj24
                                case measure => have := HJ18.out; have := HK2.out; have := HJ24.out; omega
                                case rel => exact ⟨(IntKind.u64.wrap (x16_2 + ((ji10) / 4294967296))), (IntKind.u64.wrap (x18_2 - 1)), (by first | rfl | (simp; done) | (simp only [← hji10] <;> (first | rfl | simp)) | (simp [*]; done)), (by first | rfl | (simp; done) | (simp [*]; done)), H', ⟨by have := HJ18.out; have := HK2.out; have := HJ24.out; omega⟩, by repeat (first | exact Drawn0.refl _ | apply Drawn0.step)⟩
                            · replace c27 := Bool.eq_false_iff.mpr c27
                              subst c27
                              have H1 : (if 0 ≤ ji8 then (some (IntKind.u64.wrap ((IntKind.u64.wrap (x15_18 * 4294967296)) + x18_2), shr .u64 (IntKind.u64.wrap ((IntKind.u64.wrap ((IntKind.u64.wrap ((IntKind.u64.wrap ((IntKind.u64.wrap ((IntKind.u64.wrap ((Go.bits .or .u64 (ji12) (ji15)) * 4294967296)) + ((ji17) / 4294967296))) - (IntKind.u64.wrap (x15_18 * ji10)))) * 4294967296)) + (Go.bits .and .u64 (ji17) 4294967295))) - (IntKind.u64.wrap (x18_2 * ji10)))) ji8)) else (none)) = some (r1, r2) := by rw [if_neg (show ¬ (false = true) by decide)] at H; exact H
                              clear H
                              have H := H1
                              clear H1
                              by_cases c31 : 0 ≤ ji8
                              · rw [if_pos c31] at H
                                have c31b0 := eq_true c31
                                have c31b1 : decide (0 ≤ ji8) = true := decide_eq_true c31
                                clear c31
                                obtain ⟨ji32, hji32⟩ : ∃ j_ : Int, (shr .u64 (IntKind.u64.wrap ((IntKind.u64.wrap ((IntKind.u64.wrap ((IntKind.u64.wrap ((IntKind.u64.wrap ((IntKind.u64.wrap ((Go.bits .or .u64 (ji12) (ji15)) * 4294967296)) + ((ji17) / 4294967296))) - (IntKind.u64.wrap (x15_18 * ji10)))) * 4294967296)) + (Go.bits .and .u64 (ji17) 4294967295))) - (IntKind.u64.wrap (x18_2 * ji10)))) ji8) = j_ := ⟨_, rfl⟩
                                replace H : (some (IntKind.u64.wrap ((IntKind.u64.wrap (x15_18 * 4294967296)) + x18_2), ji32)) = some (r1, r2) := by first | (rw [hji32] at H; exact H) | (simp only [hji32] at H ⊢; exact H)
                                have hji32_ : ((IntKind.u64.wrap ((IntKind.u64.wrap ((IntKind.u64.wrap ((IntKind.u64.wrap ((IntKind.u64.wrap ((IntKind.u64.wrap ((Go.bits .or .u64 (ji12) (ji15)) * 4294967296)) + ((ji17) / 4294967296))) - (IntKind.u64.wrap (x15_18 * ji10)))) * 4294967296)) + (Go.bits .and .u64 (ji17) 4294967295))) - (IntKind.u64.wrap (x18_2 * ji10)))) / 2 ^ min ji8.toNat 64) = ji32 := hji32
                                have hji32z : ji8 ≤ 64 → ((IntKind.u64.wrap ((IntKind.u64.wrap ((IntKind.u64.wrap ((IntKind.u64.wrap ((IntKind.u64.wrap ((IntKind.u64.wrap ((Go.bits .or .u64 (ji12) (ji15)) * 4294967296)) + ((ji17) / 4294967296))) - (IntKind.u64.wrap (x15_18 * ji10)))) * 4294967296)) + (Go.bits .and .u64 (ji17) 4294967295))) - (IntKind.u64.wrap (x18_2 * ji10)))) / 2 ^ ji8.toNat) = ji32 := shr_small hji32
                                simp only [Option.some.injEq, Prod.mk.injEq] at H
                                obtain ⟨rfl, rfl⟩ := H
                                go_wp2
                                repeat (go_quiet (fail); try go_wp2)
                                go_ret2
                                exact ⟨by first | rfl | (simp; done) | (simp only [← hji8, ← hji10, ← hji12, ← hji13, ← hji15, ← hji17, ← hji32] <;> (first | rfl | simp)) | (simp [*]; done), by repeat (first | exact Drawn0.refl _ | apply Drawn0.step)⟩
                              · rw [if_neg c31] at H
                                exact absurd H (by simp)
          · rw [if_neg c14] at H
            exact absurd H (by simp)
        · rw [if_neg c9] at H
          exact absurd H (by simp)
noncomputable def bits_Div64.con (k : Nat) : Con
  | [.int .u64 a0, .int .u64 a1, .int .u64 a2] => some ((bits_Div64.f k a0 a1 a2).isSome, .tup [.int .u64 (gd (bits_Div64.f k a0 a1 a2)).1, .int .u64 (gd (bits_Div64.f k a0 a1 a2)).2])
  | _ => none
set_option maxRecDepth 100000 in
theorem bits_Div64.cok (k : Nat) : COk Try.prog 68 (bits_Div64.con k) := by
  intro args p v hc hp w A hA
  unfold bits_Div64.con at hc
  split at hc
  · rename_i a0 a1 a2
    simp only [Option.some.injEq, Prod.mk.injEq] at hc
    obtain ⟨rfl, rfl⟩ := hc
    rcases hf : bits_Div64.f k a0 a1 a2 with _ | ⟨r1, r2⟩
    · rw [hf] at hp; cases hp
    obtain rfl : A = [.int .u64 a0, .int .u64 a1, .int .u64 a2] := by simpa [rl_cons, rl_nil, rv_int, rv_bool, rv_str, rv_agg, rv_fn] using hA
    exact gives_of_calls (fn := Try.f68) Try.func68 (by kernel_rfl) (by kernel_rfl) (bits_Div64.calls _ _ _ _ _ _ w hf) (fun _ => by simp [gd_some, rl_cons, rl_nil, rv_int, rv_bool, rv_str, rv_agg, rv_tup]) (fun _ h => h.below)
  · cases hc
end Go.Proofs.Ytkongoedgngfhaa.P
namespace Go.Proofs.Ytkongoedgngfhaa.P
open Go.RowKit Go.Proofs.YtkongoedgngfhaaW.PrintWords Go.Proofs.YtkongoedgngfhaaW.PrintLast Go.Proofs.YtkongoedgngfhaaW.PrintMore
open Go.Proofs.Ytkongoedgngfhaa.A
attribute [local go_sem] max2_int min2_int max_two min_two max_three min_three max_four min_four   -- for this text's walks alone
set_option linter.unusedVariables false
set_option linter.unusedSimpArgs false
def bits_Add64.f (a0 : Int) (a1 : Int) (a2 : Int) : Option (Int × Int) := if 0 ≤ a0 then (if 0 ≤ a1 then (if 0 ≤ a2 then (if a2 ≤ 1 then (some ((a0 + a1 + a2) % 18446744073709551616, (a0 + a1 + a2) / 18446744073709551616)) else none) else none) else none) else none
theorem bits_Add64.run (a0 : Int) (a1 : Int) (a2 : Int) (r1 r2 : Int) (w : World) (h : bits_Add64.f a0 a1 a2 = some (r1, r2)) :
    (callFunc 69 #[.int .u64 a0, .int .u64 a1, .int .u64 a2]).run Try.prog w = .ok (.value (.tuple #[.int .u64 r1, .int .u64 r2])) w := by
  unfold bits_Add64.f at h
  split at h
  · split at h
    · split at h
      · split at h
        · rename_i h0 h1 h2 h3
          injection h with h
          injection h with e1 e2
          subst e1; subst e2
          rw [run_callFunc_extern Try.func69 (by kernel_rfl) (by kernel_rfl) (by kernel_rfl) (e := add64Entry) (by kernel_rfl), run_add64 a0 a1 a2 h0 h1 h2 h3]
          rfl
        · cases h
      · cases h
    · cases h
  · cases h
noncomputable def bits_Add64.con : Con
  | [.int .u64 a0, .int .u64 a1, .int .u64 a2] => some ((bits_Add64.f a0 a1 a2).isSome, .tup [.int .u64 (gd (bits_Add64.f a0 a1 a2)).1, .int .u64 (gd (bits_Add64.f a0 a1 a2)).2])
  | _ => none
set_option maxRecDepth 100000 in
theorem bits_Add64.cok : COk Try.prog 69 (bits_Add64.con) := by
  intro args p v hc hp w A hA
  unfold bits_Add64.con at hc
  split at hc
  · rename_i a0 a1 a2
    simp only [Option.some.injEq, Prod.mk.injEq] at hc
    obtain ⟨rfl, rfl⟩ := hc
    rcases hf : bits_Add64.f a0 a1 a2 with _ | ⟨r1, r2⟩
    · rw [hf] at hp; cases hp
    obtain rfl : A = [.int .u64 a0, .int .u64 a1, .int .u64 a2] := by simpa [rl_cons, rl_nil, rv_int, rv_bool, rv_str, rv_agg, rv_fn] using hA
    exact gives_of_run (bits_Add64.run _ _ _ _ _ w hf) (fun _ => by simp [gd_some, rl_cons, rl_nil, rv_int, rv_bool, rv_str, rv_agg, rv_tup])
  · cases hc
end Go.Proofs.Ytkongoedgngfhaa.P
namespace Go.Proofs.Ytkongoedgngfhaa.P
open Go.RowKit Go.Proofs.YtkongoedgngfhaaW.PrintWords Go.Proofs.YtkongoedgngfhaaW.PrintLast Go.Proofs.YtkongoedgngfhaaW.PrintMore
open Go.Proofs.Ytkongoedgngfhaa.A
attribute [local go_sem] max2_int min2_int max_two min_two max_three min_three max_four min_four   -- for this text's walks alone
set_option linter.unusedVariables false
set_option linter.unusedSimpArgs false
def num_Scale.f (k : Nat) (a0 : Int) (a1 : Int) (a2 : Int) : Option (Int × Int) := if a2 = 0 then (some (0, 11)) else ((num_product.f a0 a1).bind fun bt252 => ((num_size.f a2).bind fun t254 => (if bt252.1 ≥ t254 then (some (0, 10)) else ((bits_Div64.f k bt252.1 bt252.2 t254).bind fun bt256 => (if ((((decide (a0 < 0)) != (decide (a1 < 0))) != (decide (a2 < 0))) = true) then (if bt256.2 = 0 then ((num_signed.f k (((decide (a0 < 0)) != (decide (a1 < 0))) != (decide (a2 < 0))) 0 bt256.1).bind fun bt258 => (some (bt258.1, bt258.2))) else ((bits_Add64.f bt256.1 1 0).bind fun bt260 => ((num_signed.f k true bt260.2 bt260.1).bind fun bt262 => (some (bt262.1, bt262.2))))) else ((num_signed.f k (((decide (a0 < 0)) != (decide (a1 < 0))) != (decide (a2 < 0))) 0 bt256.1).bind fun bt264 => (some (bt264.1, bt264.2))))))))
theorem num_Scale.mono : ∀ a0 a1 a2 k, LeO (num_Scale.f k a0 a1 a2) (num_Scale.f (k + 1) a0 a1 a2) := by
  intro a0 a1 a2 k
  unfold num_Scale.f
  repeat' first
      | (with_reducible exact bits_Div64.mono _ _ _ _)
      | (with_reducible exact num_signed.mono _ _ _ _)
      | (with_reducible exact LeO.refl _)
      | (with_reducible exact LeO.none _)
      | (with_reducible refine LeO.ite ?_ ?_)
      | (with_reducible refine LeO.bind ?_ (fun _ => ?_))
      | exact bits_Div64.mono _ _ _ _
      | exact num_signed.mono _ _ _ _
      | exact LeO.none _
      | refine LeO.ite ?_ ?_
      | refine LeO.bind ?_ (fun _ => ?_)
set_option maxRecDepth 100000 in
theorem num_Scale.vc (k : Nat) (a0 : Int) (a1 : Int) (a2 : Int) (K : AV → Prop) : afv PA Try.prog (tab [(53, num_signed.con k), (54, num_product.con), (65, num_size.con), (68, bits_Div64.con k), (69, bits_Add64.con)]) noLoops 2 66 [.int .i64 a0, .int .i64 a1, .int .i64 a2] K = (brc (a2 == 0) (K (AV.tup [AV.int IntKind.i64 0, AV.int IntKind.i64 11])) (brc (Option.isSome (num_product.f a0 a1)) (∀ (m0 : Int), m0 = Prod.fst (gd (num_product.f a0 a1)) → ∀ (m1 : Int), m1 = Prod.snd (gd (num_product.f a0 a1)) → brc (Option.isSome (num_size.f a2)) (∀ (m2 : Int), m2 = gd (num_size.f a2) → brc (decide (m0 ≥ m2)) (K (AV.tup [AV.int IntKind.i64 0, AV.int IntKind.i64 10])) (brc (Option.isSome (bits_Div64.f k m0 m1 m2)) (∀ (m3 : Int), m3 = Prod.fst (gd (bits_Div64.f k m0 m1 m2)) → ∀ (m4 : Int), m4 = Prod.snd (gd (bits_Div64.f k m0 m1 m2)) → brc (!!(!decide (a0 < 0) == decide (a1 < 0)) == decide (a2 < 0)) (brc (Option.isSome (num_signed.f k (!(!decide (a0 < 0) == decide (a1 < 0)) == decide (a2 < 0)) 0 m3)) (∀ (m5 : Int), m5 = Prod.fst (gd (num_signed.f k (!(!decide (a0 < 0) == decide (a1 < 0)) == decide (a2 < 0)) 0 m3)) → ∀ (m6 : Int), m6 = Prod.snd (gd (num_signed.f k (!(!decide (a0 < 0) == decide (a1 < 0)) == decide (a2 < 0)) 0 m3)) → K (AV.tup [AV.int IntKind.i64 m5, AV.int IntKind.i64 m6])) False) (brc (m4 == 0) (brc (Option.isSome (num_signed.f k (!(!decide (a0 < 0) == decide (a1 < 0)) == decide (a2 < 0)) 0 m3)) (∀ (m5 : Int), m5 = Prod.fst (gd (num_signed.f k (!(!decide (a0 < 0) == decide (a1 < 0)) == decide (a2 < 0)) 0 m3)) → ∀ (m6 : Int), m6 = Prod.snd (gd (num_signed.f k (!(!decide (a0 < 0) == decide (a1 < 0)) == decide (a2 < 0)) 0 m3)) → K (AV.tup [AV.int IntKind.i64 m5, AV.int IntKind.i64 m6])) False) (brc (Option.isSome (bits_Add64.f m3 1 0)) (∀ (m5 : Int), m5 = Prod.fst (gd (bits_Add64.f m3 1 0)) → ∀ (m6 : Int), m6 = Prod.snd (gd (bits_Add64.f m3 1 0)) → brc (Option.isSome (num_signed.f k true m6 m5)) (∀ (m7 : Int), m7 = Prod.fst (gd (num_signed.f k true m6 m5)) → ∀ (m8 : Int), m8 = Prod.snd (gd (num_signed.f k true m6 m5)) → K (AV.tup [AV.int IntKind.i64 m7, AV.int IntKind.i64 m8])) False) False))) False)) False) False)) := by kernel_rfl
set_option maxHeartbeats 1000000 in
set_option maxRecDepth 100000 in
theorem num_Scale.calls (k : Nat) (a0 : Int) (a1 : Int) (a2 : Int) (r1 : Int) (r2 : Int) (w : World) (h : num_Scale.f k a0 a1 a2 = some (r1, r2)) :
    Calls Try.prog 66 #[.int .i64 a0, .int .i64 a1, .int .i64 a2] w fun e w' => e = .returned (.tuple #[.int .i64 r1, .int .i64 r2]) ∧ Below w.heap.size w w' := by
  refine calls_of_vc (A := [.int .i64 a0, .int .i64 a1, .int .i64 a2]) (v := .tup [.int .i64 r1, .int .i64 r2]) (tab_cons (num_signed.cok k) (tab_cons (num_product.cok) (tab_cons (num_size.cok) (tab_cons (bits_Div64.cok k) (tab_cons (bits_Add64.cok) (tab_nil)))))) ((num_Scale.vc k a0 a1 a2 _).mpr ?_) (by simp [rl_cons, rl_nil, rv_int, rv_bool, rv_str, rv_agg, rv_fn]) (fun ρ V' hV => by simpa [rl_cons, rl_nil, rv_int, rv_bool, rv_str, rv_agg, rv_tup] using hV)
  unfold num_Scale.f at h
  (try simp only [bne, Option.bind_eq_some_iff, ite_some_iff] at h)
  (try simp only [bne, brc_iff, wrap_i64])
  first
    | grind (splits := 60) [gd_some]
    | ((repeat' (first | (have or_ : Or _ _ := h; clear or_; rcases h with h | h) | (have or_ : Exists _ := h; clear or_; obtain ⟨_, h⟩ := h) | (have or_ : And _ _ := h; clear or_; obtain ⟨hq_, h⟩ := h))) <;> (try simp only [Option.some.injEq, Prod.mk.injEq, reduceCtorEq] at h) <;> (try subst_vars) <;> first | (simp_all [gd_some] <;> (try omega) <;> rcases hb0 : decide (a0 < 0) with _ | _ <;> rcases hb1 : decide (a1 < 0) with _ | _ <;> rcases hb2 : decide (a2 < 0) with _ | _ <;> simp_all [gd_some] <;> done) | grind (splits := 60) [gd_some])
    | (intros; subst_vars; simp_all [gd_some]; done)
noncomputable def num_Scale.con (k : Nat) : Con
  | [.int .i64 a0, .int .i64 a1, .int .i64 a2] => some ((num_Scale.f k a0 a1 a2).isSome, .tup [.int .i64 (gd (num_Scale.f k a0 a1 a2)).1, .int .i64 (gd (num_Scale.f k a0 a1 a2)).2])
  | _ => none
set_option maxRecDepth 100000 in
theorem num_Scale.cok (k : Nat) : COk Try.prog 66 (num_Scale.con k) := by
  intro args p v hc hp w A hA
  unfold num_Scale.con at hc
  split at hc
  · rename_i a0 a1 a2
    simp only [Option.some.injEq, Prod.mk.injEq] at hc
    obtain ⟨rfl, rfl⟩ := hc
    rcases hf : num_Scale.f k a0 a1 a2 with _ | ⟨r1, r2⟩
    · rw [hf] at hp; cases hp
    obtain rfl : A = [.int .i64 a0, .int .i64 a1, .int .i64 a2] := by simpa [rl_cons, rl_nil, rv_int, rv_bool, rv_str, rv_agg, rv_fn] using hA
    exact gives_of_calls (fn := Try.f66) Try.func66 (by kernel_rfl) (by kernel_rfl) (num_Scale.calls _ _ _ _ _ _ w hf) (fun _ => by simp [gd_some, rl_cons, rl_nil, rv_int, rv_bool, rv_str, rv_agg, rv_tup]) (fun _ h => h)
  · cases hc
end Go.Proofs.Ytkongoedgngfhaa.P
namespace Go.Proofs.Ytkongoedgngfhaa.P
open Go.RowKit Go.Proofs.YtkongoedgngfhaaW.PrintWords Go.Proofs.YtkongoedgngfhaaW.PrintLast Go.Proofs.YtkongoedgngfhaaW.PrintMore
open Go.Proofs.Ytkongoedgngfhaa.A
attribute [local go_sem] max2_int min2_int max_two min_two max_three min_three max_four min_four   -- for this text's walks alone
set_option linter.unusedVariables false
set_option linter.unusedSimpArgs false
def num_Div.f (k : Nat) (a0 : Int) (a1 : Int) : Option (Int × Int) := (num_Scale.f k a0 1 a1).bind fun bt266 => (some (bt266.1, bt266.2))
theorem num_Div.mono : ∀ a0 a1 k, LeO (num_Div.f k a0 a1) (num_Div.f (k + 1) a0 a1) := by
  intro a0 a1 k
  unfold num_Div.f
  repeat' first
      | (with_reducible exact num_Scale.mono _ _ _ _)
      | (with_reducible exact LeO.refl _)
      | (with_reducible exact LeO.none _)
      | (with_reducible refine LeO.ite ?_ ?_)
      | (with_reducible refine LeO.bind ?_ (fun _ => ?_))
      | exact num_Scale.mono _ _ _ _
      | exact LeO.none _
      | refine LeO.ite ?_ ?_
      | refine LeO.bind ?_ (fun _ => ?_)
set_option maxRecDepth 100000 in
theorem num_Div.vc (k : Nat) (a0 : Int) (a1 : Int) (K : AV → Prop) : afv PA Try.prog (tab [(66, num_Scale.con k)]) noLoops 2 59 [.int .i64 a0, .int .i64 a1] K = (brc (Option.isSome (num_Scale.f k a0 1 a1)) (∀ (m0 : Int), m0 = Prod.fst (gd (num_Scale.f k a0 1 a1)) → ∀ (m1 : Int), m1 = Prod.snd (gd (num_Scale.f k a0 1 a1)) → K (AV.tup [AV.int IntKind.i64 m0, AV.int IntKind.i64 m1])) False) := by kernel_rfl
set_option maxHeartbeats 1000000 in
set_option maxRecDepth 100000 in
theorem num_Div.calls (k : Nat) (a0 : Int) (a1 : Int) (r1 : Int) (r2 : Int) (w : World) (h : num_Div.f k a0 a1 = some (r1, r2)) :
    Calls Try.prog 59 #[.int .i64 a0, .int .i64 a1] w fun e w' => e = .returned (.tuple #[.int .i64 r1, .int .i64 r2]) ∧ Below w.heap.size w w' := by
  refine calls_of_vc (A := [.int .i64 a0, .int .i64 a1]) (v := .tup [.int .i64 r1, .int .i64 r2]) (tab_cons (num_Scale.cok k) (tab_nil)) ((num_Div.vc k a0 a1 _).mpr ?_) (by simp [rl_cons, rl_nil, rv_int, rv_bool, rv_str, rv_agg, rv_fn]) (fun ρ V' hV => by simpa [rl_cons, rl_nil, rv_int, rv_bool, rv_str, rv_agg, rv_tup] using hV)
  unfold num_Div.f at h
  (try simp only [bne, Option.bind_eq_some_iff, ite_some_iff] at h)
  (try simp only [bne, brc_iff, wrap_i64])
  first
    | grind (splits := 60) [gd_some]
    | ((repeat' (first | (have or_ : Or _ _ := h; clear or_; rcases h with h | h) | (have or_ : Exists _ := h; clear or_; obtain ⟨_, h⟩ := h) | (have or_ : And _ _ := h; clear or_; obtain ⟨hq_, h⟩ := h))) <;> (try simp only [Option.some.injEq, Prod.mk.injEq, reduceCtorEq] at h) <;> (try subst_vars) <;> first | (simp_all [gd_some] <;> (try omega) <;> done) | grind (splits := 60) [gd_some])
    | (intros; subst_vars; simp_all [gd_some]; done)
noncomputable def num_Div.con (k : Nat) : Con
  | [.int .i64 a0, .int .i64 a1] => some ((num_Div.f k a0 a1).isSome, .tup [.int .i64 (gd (num_Div.f k a0 a1)).1, .int .i64 (gd (num_Div.f k a0 a1)).2])
  | _ => none
set_option maxRecDepth 100000 in
theorem num_Div.cok (k : Nat) : COk Try.prog 59 (num_Div.con k) := by
  intro args p v hc hp w A hA
  unfold num_Div.con at hc
  split at hc
  · rename_i a0 a1
    simp only [Option.some.injEq, Prod.mk.injEq] at hc
    obtain ⟨rfl, rfl⟩ := hc
    rcases hf : num_Div.f k a0 a1 with _ | ⟨r1, r2⟩
    · rw [hf] at hp; cases hp
    obtain rfl : A = [.int .i64 a0, .int .i64 a1] := by simpa [rl_cons, rl_nil, rv_int, rv_bool, rv_str, rv_agg, rv_fn] using hA
    exact gives_of_calls (fn := Try.f59) Try.func59 (by kernel_rfl) (by kernel_rfl) (num_Div.calls _ _ _ _ _ w hf) (fun _ => by simp [gd_some, rl_cons, rl_nil, rv_int, rv_bool, rv_str, rv_agg, rv_tup]) (fun _ h => h)
  · cases hc
def num_Mod.f (a0 : Int) (a1 : Int) : Option (Int × Int) := if a1 = 0 then (some (0, 11)) else (if a1 = (-1) then (some (0, 0)) else (if (Int.tmod a0 a1) = 0 then (some (Int.tmod a0 a1, 0)) else (if ((decide ((Int.tmod a0 a1) < 0)) != (decide (a1 < 0))) = true then (some (wrap64 ((Int.tmod a0 a1) + a1), 0)) else (some (Int.tmod a0 a1, 0)))))
set_option maxHeartbeats 8000000 in
set_option maxRecDepth 100000 in
theorem num_Mod.calls (a0 : Int) (a1 : Int) (r1 : Int) (r2 : Int) (w : World) (h : num_Mod.f a0 a1 = some (r1, r2)) :
    Calls Try.prog 60 #[.int .i64 a0, .int .i64 a1] w fun e w' => e = .returned (.tuple #[.int .i64 r1, .int .i64 r2]) ∧ Drawn0 w w' := by
  have H : (if a1 = 0 then (some (0, 11)) else (if a1 = (-1) then (some (0, 0)) else (if (Int.tmod a0 a1) = 0 then (some (Int.tmod a0 a1, 0)) else (if ((decide ((Int.tmod a0 a1) < 0)) != (decide (a1 < 0))) = true then (some (wrap64 ((Int.tmod a0 a1) + a1), 0)) else (some (Int.tmod a0 a1, 0)))))) = some (r1, r2) := h
  clear h
  by_cases c3 : a1 = 0
  · rw [if_pos c3] at H
    have c3b0 : (a1 == 0) = true := beq_iff_eq.mpr c3
    have c3b1 : (a1 != 0) = false := bne_eq_false_iff_eq.mpr c3
    clear c3
    simp only [Option.some.injEq, Prod.mk.injEq] at H
    obtain ⟨rfl, rfl⟩ := H
    go_enter Try.func60, Try.ntmps60
    go_wp2
    go_ret2
    exact ⟨by first | rfl | (simp; done) | (simp [*]; done), by repeat (first | exact Drawn0.refl _ | apply Drawn0.step)⟩
  · rw [if_neg c3] at H
    have c3b0 : (a1 == 0) = false := beq_eq_false_iff_ne.mpr c3
    have c3b1 : (a1 != 0) = true := bne_iff_ne.mpr c3
    by_cases c4 : a1 = (-1)
    · rw [if_pos c4] at H
      have c4b0 : (a1 == (-1)) = true := beq_iff_eq.mpr c4
      have c4b1 : (a1 != (-1)) = false := bne_eq_false_iff_eq.mpr c4
      clear c4
      simp only [Option.some.injEq, Prod.mk.injEq] at H
      obtain ⟨rfl, rfl⟩ := H
      go_enter Try.func60, Try.ntmps60
      go_wp2
      go_ret2
      exact ⟨by first | rfl | (simp; done) | (simp [*]; done), by repeat (first | exact Drawn0.refl _ | apply Drawn0.step)⟩
    · rw [if_neg c4] at H
      have c4b0 : (a1 == (-1)) = false := beq_eq_false_iff_ne.mpr c4
      have c4b1 : (a1 != (-1)) = true := bne_iff_ne.mpr c4
      by_cases c5 : (Int.tmod a0 a1) = 0
      · rw [if_pos c5] at H
        have c5b0 : ((Int.tmod a0 a1) == 0) = true := beq_iff_eq.mpr c5
        have c5b1 : ((Int.tmod a0 a1) != 0) = false := bne_eq_false_iff_eq.mpr c5
        clear c5
        simp only [Option.some.injEq, Prod.mk.injEq] at H
        obtain ⟨rfl, rfl⟩ := H
        go_enter Try.func60, Try.ntmps60
        go_wp2
        go_ret2
        exact ⟨by first | rfl | (simp; done) | (simp [*]; done), by repeat (first | exact Drawn0.refl _ | apply Drawn0.step)⟩
      · rw [if_neg c5] at H
        have c5b0 : ((Int.tmod a0 a1) == 0) = false := beq_eq_false_iff_ne.mpr c5
        have c5b1 : ((Int.tmod a0 a1) != 0) = true := bne_iff_ne.mpr c5
        by_cases c6 : ((decide ((Int.tmod a0 a1) < 0)) != (decide (a1 < 0))) = true
        · rw [if_pos c6] at H
          have c6b0 : ((decide ((Int.tmod a0 a1) < 0)) != (decide (a1 < 0))) = true := c6
          (try (have c6b1 : decide ((decide ((Int.tmod a0 a1) < 0)) = (decide (a1 < 0))) = false := by simpa using c6))
          (try (have c6b2 : ((decide ((Int.tmod a0 a1) < 0)) == (decide (a1 < 0))) = false := by simpa using c6))
          (try (have c6b3 : ¬ ((decide ((Int.tmod a0 a1) < 0)) = (decide (a1 < 0))) := by simpa using c6))
          clear c6
          simp only [Option.some.injEq, Prod.mk.injEq] at H
          obtain ⟨rfl, rfl⟩ := H
          go_enter Try.func60, Try.ntmps60
          go_wp2
          go_ret2
          exact ⟨by first | rfl | (simp; done) | (simp [*]; done), by repeat (first | exact Drawn0.refl _ | apply Drawn0.step)⟩
        · rw [if_neg c6] at H
          have c6b0 : ((decide ((Int.tmod a0 a1) < 0)) != (decide (a1 < 0))) = false := by simpa using c6
          (try (have c6b1 : decide ((decide ((Int.tmod a0 a1) < 0)) = (decide (a1 < 0))) = true := by simpa using c6))
          (try (have c6b2 : ((decide ((Int.tmod a0 a1) < 0)) == (decide (a1 < 0))) = true := by simpa using c6))
          clear c6
          simp only [Option.some.injEq, Prod.mk.injEq] at H
          obtain ⟨rfl, rfl⟩ := H
          go_enter Try.func60, Try.ntmps60
          go_wp2
          go_ret2
          exact ⟨by first | rfl | (simp; done) | (simp [*]; done), by repeat (first | exact Drawn0.refl _ | apply Drawn0.step)⟩
noncomputable def num_Mod.con : Con
  | [.int .i64 a0, .int .i64 a1] => some ((num_Mod.f a0 a1).isSome, .tup [.int .i64 (gd (num_Mod.f a0 a1)).1, .int .i64 (gd (num_Mod.f a0 a1)).2])
  | _ => none
set_option maxRecDepth 100000 in
theorem num_Mod.cok : COk Try.prog 60 (num_Mod.con) := by
  intro args p v hc hp w A hA
  unfold num_Mod.con at hc
  split at hc
  · rename_i a0 a1
    simp only [Option.some.injEq, Prod.mk.injEq] at hc
    obtain ⟨rfl, rfl⟩ := hc
    rcases hf : num_Mod.f a0 a1 with _ | ⟨r1, r2⟩
    · rw [hf] at hp; cases hp
    obtain rfl : A = [.int .i64 a0, .int .i64 a1] := by simpa [rl_cons, rl_nil, rv_int, rv_bool, rv_str, rv_agg, rv_fn] using hA
    exact gives_of_calls (fn := Try.f60) Try.func60 (by kernel_rfl) (by kernel_rfl) (num_Mod.calls _ _ _ _ w hf) (fun _ => by simp [gd_some, rl_cons, rl_nil, rv_int, rv_bool, rv_str, rv_agg, rv_tup]) (fun _ h => h.below)
  · cases hc
end Go.Proofs.Ytkongoedgngfhaa.P
namespace Go.Proofs.Ytkongoedgngfhaa.P
open Go.RowKit Go.Proofs.YtkongoedgngfhaaW.PrintWords Go.Proofs.YtkongoedgngfhaaW.PrintLast Go.Proofs.YtkongoedgngfhaaW.PrintMore
open Go.Proofs.Ytkongoedgngfhaa.A
attribute [local go_sem] max2_int min2_int max_two min_two max_three min_three max_four min_four   -- for this text's walks alone
set_option linter.unusedVariables false
set_option linter.unusedSimpArgs false
def dec_Dec_split.f (k : Nat) (a0_0 : Int) (a0_1 : Int) : Option (Int × Int) := (dec_ten.f a0_1).bind fun t270 => ((num_Div.f k a0_0 t270).bind fun bt271 => ((dec_ten.f a0_1).bind fun t273 => ((num_Mod.f a0_0 t273).bind fun bt274 => ((dec_ten.f (wrap64 (9 - a0_1))).bind fun t276 => (some (bt271.1, wrap64 (bt274.1 * t276)))))))
theorem dec_Dec_split.mono : ∀ a0 a1 k, LeO (dec_Dec_split.f k a0 a1) (dec_Dec_split.f (k + 1) a0 a1) := by
  intro a0 a1 k
  unfold dec_Dec_split.f
  repeat' first
      | (with_reducible exact num_Div.mono _ _ _)
      | (with_reducible exact LeO.refl _)
      | (with_reducible exact LeO.none _)
      | (with_reducible refine LeO.ite ?_ ?_)
      | (with_reducible refine LeO.bind ?_ (fun _ => ?_))
      | exact num_Div.mono _ _ _
      | exact LeO.none _
      | refine LeO.ite ?_ ?_
      | refine LeO.bind ?_ (fun _ => ?_)
set_option maxRecDepth 100000 in
theorem dec_Dec_split.vc (k : Nat) (a0_0 : Int) (a0_1 : Int) (K : AV → Prop) : afv PA Try.prog (tab [(45, dec_ten.con), (59, num_Div.con k), (60, num_Mod.con)]) noLoops 2 48 [.agg [.int .i64 a0_0, .int .i64 a0_1]] K = (brc (Option.isSome (dec_ten.f a0_1)) (∀ (m0 : Int), m0 = gd (dec_ten.f a0_1) → brc (Option.isSome (num_Div.f k a0_0 m0)) (∀ (m1 : Int), m1 = Prod.fst (gd (num_Div.f k a0_0 m0)) → ∀ (m2 : Int), m2 = Prod.snd (gd (num_Div.f k a0_0 m0)) → brc (Option.isSome (dec_ten.f a0_1)) (∀ (m3 : Int), m3 = gd (dec_ten.f a0_1) → brc (Option.isSome (num_Mod.f a0_0 m3)) (∀ (m4 : Int), m4 = Prod.fst (gd (num_Mod.f a0_0 m3)) → ∀ (m5 : Int), m5 = Prod.snd (gd (num_Mod.f a0_0 m3)) → brc (Option.isSome (dec_ten.f (IntKind.wrap IntKind.i64 (9 - a0_1)))) (∀ (m6 : Int), m6 = gd (dec_ten.f (IntKind.wrap IntKind.i64 (9 - a0_1))) → K (AV.agg [AV.int IntKind.i64 m1, AV.int IntKind.i64 (IntKind.wrap IntKind.i64 (m4 * m6))])) False) False) False) False) False) := by kernel_rfl
set_option maxHeartbeats 1000000 in
set_option maxRecDepth 100000 in
theorem dec_Dec_split.calls (k : Nat) (a0_0 : Int) (a0_1 : Int) (r1 : Int) (r2 : Int) (w : World) (h : dec_Dec_split.f k a0_0 a0_1 = some (r1, r2)) :
    Calls Try.prog 48 #[.agg #[.int .i64 a0_0, .int .i64 a0_1]] w fun e w' => e = .returned (.agg #[.int .i64 r1, .int .i64 r2]) ∧ Below w.heap.size w w' := by
  refine calls_of_vc (A := [.agg #[.int .i64 a0_0, .int .i64 a0_1]]) (v := .agg [.int .i64 r1, .int .i64 r2]) (tab_cons (dec_ten.cok) (tab_cons (num_Div.cok k) (tab_cons (num_Mod.cok) (tab_nil)))) ((dec_Dec_split.vc k a0_0 a0_1 _).mpr ?_) (by simp [rl_cons, rl_nil, rv_int, rv_bool, rv_str, rv_agg, rv_fn]) (fun ρ V' hV => by simpa [rl_cons, rl_nil, rv_int, rv_bool, rv_str, rv_agg, rv_tup] using hV)
  unfold dec_Dec_split.f at h
  (try simp only [bne, Option.bind_eq_some_iff, ite_some_iff] at h)
  (try simp only [bne, brc_iff, wrap_i64])
  first
    | grind (splits := 60) [gd_some]
    | ((repeat' (first | (have or_ : Or _ _ := h; clear or_; rcases h with h | h) | (have or_ : Exists _ := h; clear or_; obtain ⟨_, h⟩ := h) | (have or_ : And _ _ := h; clear or_; obtain ⟨hq_, h⟩ := h))) <;> (try simp only [Option.some.injEq, Prod.mk.injEq, reduceCtorEq] at h) <;> (try subst_vars) <;> first | (simp_all [gd_some] <;> (try omega) <;> done) | grind (splits := 60) [gd_some])
    | (intros; subst_vars; simp_all [gd_some]; done)
noncomputable def dec_Dec_split.con (k : Nat) : Con
  | [.agg [.int .i64 a0_0, .int .i64 a0_1]] => some ((dec_Dec_split.f k a0_0 a0_1).isSome, .agg [.int .i64 (gd (dec_Dec_split.f k a0_0 a0_1)).1, .int .i64 (gd (dec_Dec_split.f k a0_0 a0_1)).2])
  | _ => none
set_option maxRecDepth 100000 in
theorem dec_Dec_split.cok (k : Nat) : COk Try.prog 48 (dec_Dec_split.con k) := by
  intro args p v hc hp w A hA
  unfold dec_Dec_split.con at hc
  split at hc
  · rename_i a0_0 a0_1
    simp only [Option.some.injEq, Prod.mk.injEq] at hc
    obtain ⟨rfl, rfl⟩ := hc
    rcases hf : dec_Dec_split.f k a0_0 a0_1 with _ | ⟨r1, r2⟩
    · rw [hf] at hp; cases hp
    obtain rfl : A = [.agg #[.int .i64 a0_0, .int .i64 a0_1]] := by simpa [rl_cons, rl_nil, rv_int, rv_bool, rv_str, rv_agg, rv_fn] using hA
    exact gives_of_calls (fn := Try.f48) Try.func48 (by kernel_rfl) (by kernel_rfl) (dec_Dec_split.calls _ _ _ _ _ w hf) (fun _ => by simp [gd_some, rl_cons, rl_nil, rv_int, rv_bool, rv_str, rv_agg, rv_tup]) (fun _ h => h)
  · cases hc
theorem dec_Dec_split.up {k : Nat} {a0_0 : Int} {a0_1 : Int} {r : Int × Int} (h : dec_Dec_split.f k a0_0 a0_1 = some r) : dec_Dec_split.f (k + 1) a0_0 a0_1 = some r := dec_Dec_split.mono a0_0 a0_1 k _ h
theorem dec_Dec_split.le {a0_0 : Int} {a0_1 : Int} {r : Int × Int} {k n : Nat} (h : dec_Dec_split.f k a0_0 a0_1 = some r) (hk : k ≤ n) : dec_Dec_split.f n a0_0 a0_1 = some r := by
  induction hk with
  | refl => exact h
  | step _ ih => exact dec_Dec_split.up ih
end Go.Proofs.Ytkongoedgngfhaa.P
namespace Go.Proofs.Ytkongoedgngfhaa.P
open Go.RowKit Go.Proofs.YtkongoedgngfhaaW.PrintWords Go.Proofs.YtkongoedgngfhaaW.PrintLast Go.Proofs.YtkongoedgngfhaaW.PrintMore
open Go.Proofs.Ytkongoedgngfhaa.A
attribute [local go_sem] max2_int min2_int max_two min_two max_three min_three max_four min_four   -- for this text's walks alone
set_option linter.unusedVariables false
set_option linter.unusedSimpArgs false
def dec_Floor.f (k : Nat) (a0_0 : Int) (a0_1 : Int) : Option (Int × Int) := (dec_Right.f a0_0 a0_1).bind fun t278 => (if t278 = true then ((dec_Dec_split.f k a0_0 a0_1).bind fun bt279 => (some (bt279.1, 0))) else (some (0, 1)))
theorem dec_Floor.mono : ∀ a0 a1 k, LeO (dec_Floor.f k a0 a1) (dec_Floor.f (k + 1) a0 a1) := by
  intro a0 a1 k
  unfold dec_Floor.f
  repeat' first
      | (with_reducible exact dec_Dec_split.mono _ _ _)
      | (with_reducible exact LeO.refl _)
      | (with_reducible exact LeO.none _)
      | (with_reducible refine LeO.ite ?_ ?_)
      | (with_reducible refine LeO.bind ?_ (fun _ => ?_))
      | exact dec_Dec_split.mono _ _ _
      | exact LeO.none _
      | refine LeO.ite ?_ ?_
      | refine LeO.bind ?_ (fun _ => ?_)
set_option maxRecDepth 100000 in
theorem dec_Floor.vc (k : Nat) (a0_0 : Int) (a0_1 : Int) (K : AV → Prop) : afv PA Try.prog (tab [(31, dec_Right.con), (48, dec_Dec_split.con k)]) noLoops 2 21 [.agg [.int .i64 a0_0, .int .i64 a0_1]] K = (brc (Option.isSome (dec_Right.f a0_0 a0_1)) (∀ (m0 : Bool), m0 = gd (dec_Right.f a0_0 a0_1) → brc (!m0) (K (AV.tup [AV.int IntKind.i64 0, AV.int IntKind.i64 1])) (brc (Option.isSome (dec_Dec_split.f k a0_0 a0_1)) (∀ (m1 : Int), m1 = Prod.fst (gd (dec_Dec_split.f k a0_0 a0_1)) → ∀ (m2 : Int), m2 = Prod.snd (gd (dec_Dec_split.f k a0_0 a0_1)) → K (AV.tup [AV.int IntKind.i64 m1, AV.int IntKind.i64 0])) False)) False) := by kernel_rfl
set_option maxHeartbeats 1000000 in
set_option maxRecDepth 100000 in
theorem dec_Floor.calls (k : Nat) (a0_0 : Int) (a0_1 : Int) (r1 : Int) (r2 : Int) (w : World) (h : dec_Floor.f k a0_0 a0_1 = some (r1, r2)) :
    Calls Try.prog 21 #[.agg #[.int .i64 a0_0, .int .i64 a0_1]] w fun e w' => e = .returned (.tuple #[.int .i64 r1, .int .i64 r2]) ∧ Below w.heap.size w w' := by
  refine calls_of_vc (A := [.agg #[.int .i64 a0_0, .int .i64 a0_1]]) (v := .tup [.int .i64 r1, .int .i64 r2]) (tab_cons (dec_Right.cok) (tab_cons (dec_Dec_split.cok k) (tab_nil))) ((dec_Floor.vc k a0_0 a0_1 _).mpr ?_) (by simp [rl_cons, rl_nil, rv_int, rv_bool, rv_str, rv_agg, rv_fn]) (fun ρ V' hV => by simpa [rl_cons, rl_nil, rv_int, rv_bool, rv_str, rv_agg, rv_tup] using hV)
  unfold dec_Floor.f at h
  (try simp only [bne, Option.bind_eq_some_iff, ite_some_iff] at h)
  (try simp only [bne, brc_iff, wrap_i64])
  first
    | grind (splits := 60) [gd_some]
    | ((repeat' (first | (have or_ : Or _ _ := h; clear or_; rcases h with h | h) | (have or_ : Exists _ := h; clear or_; obtain ⟨_, h⟩ := h) | (have or_ : And _ _ := h; clear or_; obtain ⟨hq_, h⟩ := h))) <;> (try simp only [Option.some.injEq, Prod.mk.injEq, reduceCtorEq] at h) <;> (try subst_vars) <;> first | (simp_all [gd_some] <;> (try omega) <;> done) | grind (splits := 60) [gd_some])
    | (intros; subst_vars; simp_all [gd_some]; done)
noncomputable def dec_Floor.con (k : Nat) : Con
  | [.agg [.int .i64 a0_0, .int .i64 a0_1]] => some ((dec_Floor.f k a0_0 a0_1).isSome, .tup [.int .i64 (gd (dec_Floor.f k a0_0 a0_1)).1, .int .i64 (gd (dec_Floor.f k a0_0 a0_1)).2])
  | _ => none
set_option maxRecDepth 100000 in
theorem dec_Floor.cok (k : Nat) : COk Try.prog 21 (dec_Floor.con k) := by
  intro args p v hc hp w A hA
  unfold dec_Floor.con at hc
  split at hc
  · rename_i a0_0 a0_1
    simp only [Option.some.injEq, Prod.mk.injEq] at hc
    obtain ⟨rfl, rfl⟩ := hc
    rcases hf : dec_Floor.f k a0_0 a0_1 with _ | ⟨r1, r2⟩
    · rw [hf] at hp; cases hp
    obtain rfl : A = [.agg #[.int .i64 a0_0, .int .i64 a0_1]] := by simpa [rl_cons, rl_nil, rv_int, rv_bool, rv_str, rv_agg, rv_fn] using hA
    exact gives_of_calls (fn := Try.f21) Try.func21 (by kernel_rfl) (by kernel_rfl) (dec_Floor.calls _ _ _ _ _ w hf) (fun _ => by simp [gd_some, rl_cons, rl_nil, rv_int, rv_bool, rv_str, rv_agg, rv_tup]) (fun _ h => h)
  · cases hc
def dec_Trim.l0 : Nat → Int → Int → Option (Int × Int)
  | 0, _, _ => none
  | k + 1, x282000, x282001 => if x282001 > 0 then (if (Int.tmod x282000 10) = 0 then (dec_Trim.l0 k (wrap64 (Int.tdiv x282000 10)) (wrap64 (x282001 - 1))) else (some (x282000, x282001))) else (some (x282000, x282001))
def dec_Trim.f (k : Nat) (a0_0 : Int) (a0_1 : Int) : Option (Int × Int) := (dec_Right.f a0_0 a0_1).bind fun t283 => (if t283 = true then (dec_Trim.l0 k a0_0 a0_1) else (some (a0_0, a0_1)))
theorem dec_Trim.mono_l : ∀ k, (∀ y0 y1, LeO (dec_Trim.l0 k y0 y1) (dec_Trim.l0 (k + 1) y0 y1))
  | 0 => fun _ _ r h => by simp [dec_Trim.l0] at h
  | k + 1 => by
    have ih0 := dec_Trim.mono_l k
    · intro y0 y1
      unfold dec_Trim.l0
      repeat' first
      | (with_reducible exact ih0 _ _)
      | (with_reducible exact LeO.refl _)
      | (with_reducible exact LeO.none _)
      | (with_reducible refine LeO.ite ?_ ?_)
      | (with_reducible refine LeO.bind ?_ (fun _ => ?_))
      | exact ih0 _ _
      | exact LeO.none _
      | refine LeO.ite ?_ ?_
      | refine LeO.bind ?_ (fun _ => ?_)
theorem dec_Trim.mono : ∀ a0 a1 k, LeO (dec_Trim.f k a0 a1) (dec_Trim.f (k + 1) a0 a1) := by
  intro a0 a1 k
  have ih0 := dec_Trim.mono_l k
  unfold dec_Trim.f
  repeat' first
      | (with_reducible exact ih0 _ _)
      | (with_reducible exact LeO.refl _)
      | (with_reducible exact LeO.none _)
      | (with_reducible refine LeO.ite ?_ ?_)
      | (with_reducible refine LeO.bind ?_ (fun _ => ?_))
      | exact ih0 _ _
      | exact LeO.none _
      | refine LeO.ite ?_ ?_
      | refine LeO.bind ?_ (fun _ => ?_)
set_option maxHeartbeats 8000000 in
set_option maxRecDepth 100000 in
theorem dec_Trim.calls (k : Nat) (a0_0 : Int) (a0_1 : Int) (r1 : Int) (r2 : Int) (w : World) (h : dec_Trim.f k a0_0 a0_1 = some (r1, r2)) :
    Calls Try.prog 23 #[.agg #[.int .i64 a0_0, .int .i64 a0_1]] w fun e w' => e = .returned (.agg #[.int .i64 r1, .int .i64 r2]) ∧ Below w.heap.size w w' := by
  have hu25 := Try.underlying25
  have HB := Aside0.mk (Below.refl w.heap.size w)
  have H : ((dec_Right.f a0_0 a0_1).bind fun t283 => (if t283 = true then (dec_Trim.l0 k a0_0 a0_1) else (some (a0_0, a0_1)))) = some (r1, r2) := h
  clear h
  replace H := Option.bind_eq_some_iff.mp H
  obtain ⟨t283, A20, H⟩ := H
  replace H : (if t283 = true then (dec_Trim.l0 k a0_0 a0_1) else (some (a0_0, a0_1))) = some (r1, r2) := H
  have A2 := Aside0.mk A20
  clear A20
  by_cases c3 : t283 = true
  · subst c3
    have H1 : (dec_Trim.l0 k a0_0 a0_1) = some (r1, r2) := by rw [if_pos rfl] at H; exact H
    clear H
    have H := H1
    clear H1
    have H' := Aside0.mk H
    clear H
    go_enter Try.func23, Try.ntmps23
    go_wp2_with (first | ((with_reducible refine gate_dst (N := 1) rfl ?_); refine box_event ?hg (N := 1) ?hd (cs := #[.int .i64 a0_0, .int .i64 a0_1]) (t := 25) ?hr ?_; (case hd => rfl); (case hg => rfl); (case hr => first | (go_simp; done) | (go_simp; rfl)); intro gb281 hg w4 hbox hb; have n0_ := Aside0.mk (kL (by repeat (first | (with_reducible first | exact HB.out | apply kF | apply kB | apply kG) | exact HB.out)) hb); have n1_ := Aside0.mk (hbox); have n2_ := Aside0.mk ((by rw [hg]; exact (kK (by repeat (first | (with_reducible first | exact HB.out | apply kF | apply kB | apply kG) | exact HB.out))) : w.heap.size ≤ gb281)); have n3_ := Aside0.mk ((by rw [hg]; exact (kK (by repeat (first | (with_reducible first | exact HB.out | apply kF | apply kB | apply kG) | exact HB.out))) : w.heap.size ≤ gb281)); clear HB; have HB := n0_; have BK281 := n1_; have GW281 := n2_; have GE281 := n3_; clear n0_ n1_ n2_ n3_; clear hb hbox hg) | ((with_reducible refine gate_dst (N := 2) rfl ?_); refine box_event ?hg (N := 2) ?hd (cs := #[.int .i64 0, .int .i64 0]) (t := 25) ?hr ?_; (case hd => rfl); (case hg => rfl); (case hr => first | (go_simp; done) | (go_simp; rfl)); intro gb282 hg w5 hbox hb; have n0_ := Aside0.mk (kI (g := gb281) (o := .cells #[.int .i64 a0_0, .int .i64 a0_1] 25 (0, 0)) (by (with_reducible repeat (first | refine kC ?_ _ | refine kE ?_ | refine kD ?_ _)); exact BK281.out) hb); have n1_ := Aside0.mk (kL (by repeat (first | (with_reducible first | exact HB.out | apply kF | apply kB | apply kG | refine kA ?_ GE281.out) | exact HB.out)) hb); have n2_ := Aside0.mk (hbox); have n3_ := Aside0.mk ((by rw [hg]; exact (kK (by repeat (first | (with_reducible first | exact HB.out | apply kF | apply kB | apply kG | refine kA ?_ GE281.out) | exact HB.out))) : w.heap.size ≤ gb282)); have n4_ := Aside0.mk ((by rw [hg]; exact (kK (by repeat (first | (with_reducible first | exact HB.out | apply kF | apply kB | apply kG | refine kA ?_ GE281.out) | exact HB.out))) : w.heap.size ≤ gb282)); have n5_ := Aside0.mk ((by rw [hg]; exact Nat.ne_of_lt (kM (g := gb281) (o := .cells #[.int .i64 a0_0, .int .i64 a0_1] 25 (0, 0)) (by (with_reducible repeat (first | refine kC ?_ _ | refine kE ?_ | refine kD ?_ _)); exact BK281.out)) : gb281 ≠ gb282)); have n6_ := Aside0.mk ((by rw [hg]; exact Nat.ne_of_gt (kM (g := gb281) (o := .cells #[.int .i64 a0_0, .int .i64 a0_1] 25 (0, 0)) (by (with_reducible repeat (first | refine kC ?_ _ | refine kE ?_ | refine kD ?_ _)); exact BK281.out)) : gb282 ≠ gb281)); clear BK281; clear HB; have BK281 := n0_; have HB := n1_; have BK282 := n2_; have GW282 := n3_; have GE282 := n4_; have NB281_282 := n5_; have NB282_281 := n6_; clear n0_ n1_ n2_ n3_ n4_ n5_ n6_; clear hb hbox hg; have hnb6 := NB281_282.out; have hnc6 := NB282_281.out; have hcz7_0 : w5.cell? ⟨gb281, 0, none⟩ = some (.int .i64 a0_0) := (kH BK281.out 0).trans rfl; have hcz7_1 : w5.cell? ⟨gb281, 1, none⟩ = some (.int .i64 a0_1) := (kH BK281.out 1).trans rfl; have hfz7_0 := kJ BK281.out 0; have hfz7_1 := kJ BK281.out 1) | ((with_reducible refine gate_callee (f := 31) rfl ?_); refine goesL_ (some 4) rfl rfl Try.func31 (by kernel_rfl) rfl #[.agg #[.int .i64 a0_0, .int .i64 a0_1]] rfl (by (try simp only [List.map_toArray, List.map_cons, List.map_nil]); first | done | rfl | (simp only [List.length_drop, List.length_take]; rfl)) ?_; (with_reducible refine (dec_Right.calls a0_0 a0_1 true _ A2.out).mono ?_); rintro e w8 ⟨rfl, hb⟩; refine ⟨_, rfl, ?_⟩; have n0_ := Aside0.mk (kI (g := gb281) (o := .cells #[.int .i64 a0_0, .int .i64 a0_1] 25 (0, 0)) (by (with_reducible repeat (first | refine kC ?_ _ | refine kE ?_ | refine kD ?_ _)); exact BK281.out) hb); have n1_ := Aside0.mk (kI (g := gb282) (o := .cells #[.int .i64 0, .int .i64 0] 25 (0, 0)) (by (with_reducible repeat (first | refine kC ?_ _ | refine kE ?_ | refine kD ?_ _)); exact BK282.out) hb); have n2_ := Aside0.mk (kL (by repeat (first | (with_reducible first | exact HB.out | apply kF | apply kB | apply kG | refine kA ?_ GE281.out | refine kA ?_ GE282.out) | exact HB.out)) hb); clear BK281; clear BK282; clear HB; have BK281 := n0_; have BK282 := n1_; have HB := n2_; clear n0_ n1_ n2_; (try clear hb); (try clear hb2); (try clear hk); (try clear hi)))
    go_loopg [] k (fun kq w' => ∃ (x282000_1 : Int) (x282001_1 : Int), Aside0 (dec_Trim.l0 kq x282000_1 x282001_1 = some (r1, r2)) ∧ Aside0 (kq ≤ k) ∧ Aside0 (w'.heap[gb281]? = some (.cells #[.int .i64 x282000_1, .int .i64 x282001_1] 25 (0, 0))) ∧ Aside0 (w'.heap[gb282]? = some (.cells #[.int .i64 0, .int .i64 0] 25 (0, 0))) ∧ Aside0 (Below w.heap.size w w'))
    case atStart => exact ⟨(a0_0), (a0_1), H', ⟨Nat.le_refl _⟩, ⟨by (with_reducible repeat (first | refine kC ?_ _ | refine kE ?_ | refine kD ?_ _)); exact BK281.out⟩, ⟨by (with_reducible repeat (first | refine kC ?_ _ | refine kE ?_ | refine kD ?_ _)); exact BK282.out⟩, ⟨by repeat (first | (with_reducible first | exact HB.out | apply kF | apply kB | apply kG | refine kA ?_ GE281.out | refine kA ?_ GE282.out) | exact HB.out)⟩⟩
    case round =>
      clear H'
      try clear c2
      try clear p2
      try clear c3
      try clear c6
      try clear hcz7_0
      try clear hcz7_1
      try clear hfz7_0
      try clear hfz7_1
      obtain ⟨x282000_1, x282001_1, HA, HK1, BK281, BK282, HB⟩ := hrel
      cases gk with
      | zero => exact absurd HA.out (by simp [dec_Trim.l0])
      | succ k1 =>
        have H := HA.out
        clear HA
        simp only [dec_Trim.l0] at H
        by_cases c9 : x282001_1 > 0
        · rw [if_pos c9] at H
          have c9b0 : decide (0 < x282001_1) = true := decide_eq_true c9
          clear c9
          by_cases c10 : (Int.tmod x282000_1 10) = 0
          · rw [if_pos c10] at H
            have c10b0 : ((Int.tmod x282000_1 10) == 0) = true := beq_iff_eq.mpr c10
            have c10b1 : ((Int.tmod x282000_1 10) != 0) = false := bne_eq_false_iff_eq.mpr c10
            clear c10
            have H' := Aside0.mk H
            clear H
            have hnb11 := NB281_282.out
            have hnc11 := NB282_281.out
            have hcz12_0 : wr.cell? ⟨gb281, 0, none⟩ = some (.int .i64 x282000_1) := (kH BK281.out 0).trans rfl
            have hcz12_1 : wr.cell? ⟨gb281, 1, none⟩ = some (.int .i64 x282001_1) := (kH BK281.out 1).trans rfl
            have hfz12_0 := kJ BK281.out 0
            have hfz12_1 := kJ BK281.out 1
            go_wp2
            go_roundg k1
            case measure => have := HK1.out; omega
            case rel => exact ⟨(wrap64 (Int.tdiv x282000_1 10)), (wrap64 (x282001_1 - 1)), H', ⟨by have := HK1.out; omega⟩, ⟨by (with_reducible repeat (first | refine kC ?_ _ | refine kE ?_ | refine kD ?_ _)); refine blk_put (cs := #[.int .i64 (wrap64 (Int.tdiv x282000_1 10)), .int .i64 x282001_1]) ?_ 1 _ rfl; (with_reducible repeat (first | refine kC ?_ _ | refine kE ?_ | refine kD ?_ _)); refine blk_put (cs := #[.int .i64 x282000_1, .int .i64 x282001_1]) ?_ 0 _ rfl; (with_reducible repeat (first | refine kC ?_ _ | refine kE ?_ | refine kD ?_ _)); exact BK281.out⟩, ⟨by (with_reducible repeat (first | refine kC ?_ _ | refine kE ?_ | refine kD ?_ _)); refine blk_far ?_ NB282_281.out _; (with_reducible repeat (first | refine kC ?_ _ | refine kE ?_ | refine kD ?_ _)); refine blk_far ?_ NB282_281.out _; (with_reducible repeat (first | refine kC ?_ _ | refine kE ?_ | refine kD ?_ _)); exact BK282.out⟩, ⟨by repeat (first | (with_reducible first | exact HB.out | apply kF | apply kB | apply kG | refine kA ?_ GE281.out | refine kA ?_ GE282.out) | exact HB.out)⟩⟩
          · rw [if_neg c10] at H
            have c10b0 : ((Int.tmod x282000_1 10) == 0) = false := beq_eq_false_iff_ne.mpr c10
            have c10b1 : ((Int.tmod x282000_1 10) != 0) = true := bne_iff_ne.mpr c10
            simp only [Option.some.injEq, Prod.mk.injEq] at H
            obtain ⟨rfl, rfl⟩ := H
            have hnb13 := NB281_282.out
            have hnc13 := NB282_281.out
            have hcz14_0 : wr.cell? ⟨gb281, 0, none⟩ = some (.int .i64 x282000_1) := (kH BK281.out 0).trans rfl
            have hcz14_1 : wr.cell? ⟨gb281, 1, none⟩ = some (.int .i64 x282001_1) := (kH BK281.out 1).trans rfl
            have hfz14_0 := kJ BK281.out 0
            have hfz14_1 := kJ BK281.out 1
            have hcz15_0 : wr.cell? ⟨gb282, 0, none⟩ = some (.int .i64 0) := (kH BK282.out 0).trans rfl
            have hcz15_1 : wr.cell? ⟨gb282, 1, none⟩ = some (.int .i64 0) := (kH BK282.out 1).trans rfl
            have hfz15_0 := kJ BK282.out 0
            have hfz15_1 := kJ BK282.out 1
            go_wp2
            refine bodyPost_ret (results_cell_row rfl _ _ gb282 25 #[.int .i64 x282000_1, .int .i64 x282001_1] (0, 0) _ rfl (by (with_reducible repeat (first | refine kC ?_ _ | refine kE ?_ | refine kD ?_ _)); refine blk_put (cs := #[.int .i64 x282000_1, .int .i64 0]) ?_ 1 _ rfl; (with_reducible repeat (first | refine kC ?_ _ | refine kE ?_ | refine kD ?_ _)); refine blk_put (cs := #[.int .i64 0, .int .i64 0]) ?_ 0 _ rfl; (with_reducible repeat (first | refine kC ?_ _ | refine kE ?_ | refine kD ?_ _)); exact BK282.out) Try.underlying25 rfl (by kernel_rfl)) rfl ?_
            exact ⟨by first | rfl | (simp [errW_none, errW_some] <;> rfl) | (simp [*, errW_none, errW_some] <;> rfl), by repeat (first | (with_reducible first | exact HB.out | apply kF | apply kB | apply kG | refine kA ?_ GE281.out | refine kA ?_ GE282.out) | exact HB.out)⟩
        · rw [if_neg c9] at H
          have c9b0 : decide (0 < x282001_1) = false := decide_eq_false c9
          clear c9
          simp only [Option.some.injEq, Prod.mk.injEq] at H
          obtain ⟨rfl, rfl⟩ := H
          have hnb16 := NB281_282.out
          have hnc16 := NB282_281.out
          have hcz17_0 : wr.cell? ⟨gb281, 0, none⟩ = some (.int .i64 x282000_1) := (kH BK281.out 0).trans rfl
          have hcz17_1 : wr.cell? ⟨gb281, 1, none⟩ = some (.int .i64 x282001_1) := (kH BK281.out 1).trans rfl
          have hfz17_0 := kJ BK281.out 0
          have hfz17_1 := kJ BK281.out 1
          have hcz18_0 : wr.cell? ⟨gb282, 0, none⟩ = some (.int .i64 0) := (kH BK282.out 0).trans rfl
          have hcz18_1 : wr.cell? ⟨gb282, 1, none⟩ = some (.int .i64 0) := (kH BK282.out 1).trans rfl
          have hfz18_0 := kJ BK282.out 0
          have hfz18_1 := kJ BK282.out 1
          go_wp2
          refine bodyPost_ret (results_cell_row rfl _ _ gb282 25 #[.int .i64 x282000_1, .int .i64 x282001_1] (0, 0) _ rfl (by (with_reducible repeat (first | refine kC ?_ _ | refine kE ?_ | refine kD ?_ _)); refine blk_put (cs := #[.int .i64 x282000_1, .int .i64 0]) ?_ 1 _ rfl; (with_reducible repeat (first | refine kC ?_ _ | refine kE ?_ | refine kD ?_ _)); refine blk_put (cs := #[.int .i64 0, .int .i64 0]) ?_ 0 _ rfl; (with_reducible repeat (first | refine kC ?_ _ | refine kE ?_ | refine kD ?_ _)); exact BK282.out) Try.underlying25 rfl (by kernel_rfl)) rfl ?_
          exact ⟨by first | rfl | (simp [errW_none, errW_some] <;> rfl) | (simp [*, errW_none, errW_some] <;> rfl), by repeat (first | (with_reducible first | exact HB.out | apply kF | apply kB | apply kG | refine kA ?_ GE281.out | refine kA ?_ GE282.out) | exact HB.out)⟩
  · replace c3 := Bool.eq_false_iff.mpr c3
    subst c3
    have H1 : (some (a0_0, a0_1)) = some (r1, r2) := by rw [if_neg (show ¬ (false = true) by decide)] at H; exact H
    clear H
    have H := H1
    clear H1
    simp only [Option.some.injEq, Prod.mk.injEq] at H
    obtain ⟨rfl, rfl⟩ := H
    go_enter Try.func23, Try.ntmps23
    go_wp2_with (first | ((with_reducible refine gate_dst (N := 1) rfl ?_); refine box_event ?hg (N := 1) ?hd (cs := #[.int .i64 a0_0, .int .i64 a0_1]) (t := 25) ?hr ?_; (case hd => rfl); (case hg => rfl); (case hr => first | (go_simp; done) | (go_simp; rfl)); intro gb281 hg w19 hbox hb; have n0_ := Aside0.mk (kL (by repeat (first | (with_reducible first | exact HB.out | apply kF | apply kB | apply kG) | exact HB.out)) hb); have n1_ := Aside0.mk (hbox); have n2_ := Aside0.mk ((by rw [hg]; exact (kK (by repeat (first | (with_reducible first | exact HB.out | apply kF | apply kB | apply kG) | exact HB.out))) : w.heap.size ≤ gb281)); have n3_ := Aside0.mk ((by rw [hg]; exact (kK (by repeat (first | (with_reducible first | exact HB.out | apply kF | apply kB | apply kG) | exact HB.out))) : w.heap.size ≤ gb281)); clear HB; have HB := n0_; have BK281 := n1_; have GW281 := n2_; have GE281 := n3_; clear n0_ n1_ n2_ n3_; clear hb hbox hg) | ((with_reducible refine gate_dst (N := 2) rfl ?_); refine box_event ?hg (N := 2) ?hd (cs := #[.int .i64 0, .int .i64 0]) (t := 25) ?hr ?_; (case hd => rfl); (case hg => rfl); (case hr => first | (go_simp; done) | (go_simp; rfl)); intro gb282 hg w20 hbox hb; have n0_ := Aside0.mk (kI (g := gb281) (o := .cells #[.int .i64 a0_0, .int .i64 a0_1] 25 (0, 0)) (by (with_reducible repeat (first | refine kC ?_ _ | refine kE ?_ | refine kD ?_ _)); exact BK281.out) hb); have n1_ := Aside0.mk (kL (by repeat (first | (with_reducible first | exact HB.out | apply kF | apply kB | apply kG | refine kA ?_ GE281.out) | exact HB.out)) hb); have n2_ := Aside0.mk (hbox); have n3_ := Aside0.mk ((by rw [hg]; exact (kK (by repeat (first | (with_reducible first | exact HB.out | apply kF | apply kB | apply kG | refine kA ?_ GE281.out) | exact HB.out))) : w.heap.size ≤ gb282)); have n4_ := Aside0.mk ((by rw [hg]; exact (kK (by repeat (first | (with_reducible first | exact HB.out | apply kF | apply kB | apply kG | refine kA ?_ GE281.out) | exact HB.out))) : w.heap.size ≤ gb282)); have n5_ := Aside0.mk ((by rw [hg]; exact Nat.ne_of_lt (kM (g := gb281) (o := .cells #[.int .i64 a0_0, .int .i64 a0_1] 25 (0, 0)) (by (with_reducible repeat (first | refine kC ?_ _ | refine kE ?_ | refine kD ?_ _)); exact BK281.out)) : gb281 ≠ gb282)); have n6_ := Aside0.mk ((by rw [hg]; exact Nat.ne_of_gt (kM (g := gb281) (o := .cells #[.int .i64 a0_0, .int .i64 a0_1] 25 (0, 0)) (by (with_reducible repeat (first | refine kC ?_ _ | refine kE ?_ | refine kD ?_ _)); exact BK281.out)) : gb282 ≠ gb281)); clear BK281; clear HB; have BK281 := n0_; have HB := n1_; have BK282 := n2_; have GW282 := n3_; have GE282 := n4_; have NB281_282 := n5_; have NB282_281 := n6_; clear n0_ n1_ n2_ n3_ n4_ n5_ n6_; clear hb hbox hg; have hnb21 := NB281_282.out; have hnc21 := NB282_281.out; have hcz22_0 : w20.cell? ⟨gb281, 0, none⟩ = some (.int .i64 a0_0) := (kH BK281.out 0).trans rfl; have hcz22_1 : w20.cell? ⟨gb281, 1, none⟩ = some (.int .i64 a0_1) := (kH BK281.out 1).trans rfl; have hfz22_0 := kJ BK281.out 0; have hfz22_1 := kJ BK281.out 1) | ((with_reducible refine gate_callee (f := 31) rfl ?_); refine goesL_ (some 4) rfl rfl Try.func31 (by kernel_rfl) rfl #[.agg #[.int .i64 a0_0, .int .i64 a0_1]] rfl (by (try simp only [List.map_toArray, List.map_cons, List.map_nil]); first | done | rfl | (simp only [List.length_drop, List.length_take]; rfl)) ?_; (with_reducible refine (dec_Right.calls a0_0 a0_1 false _ A2.out).mono ?_); rintro e w23 ⟨rfl, hb⟩; refine ⟨_, rfl, ?_⟩; have n0_ := Aside0.mk (kI (g := gb281) (o := .cells #[.int .i64 a0_0, .int .i64 a0_1] 25 (0, 0)) (by (with_reducible repeat (first | refine kC ?_ _ | refine kE ?_ | refine kD ?_ _)); exact BK281.out) hb); have n1_ := Aside0.mk (kI (g := gb282) (o := .cells #[.int .i64 0, .int .i64 0] 25 (0, 0)) (by (with_reducible repeat (first | refine kC ?_ _ | refine kE ?_ | refine kD ?_ _)); exact BK282.out) hb); have n2_ := Aside0.mk (kL (by repeat (first | (with_reducible first | exact HB.out | apply kF | apply kB | apply kG | refine kA ?_ GE281.out | refine kA ?_ GE282.out) | exact HB.out)) hb); clear BK281; clear BK282; clear HB; have BK281 := n0_; have BK282 := n1_; have HB := n2_; clear n0_ n1_ n2_; (try clear hb); (try clear hb2); (try clear hk); (try clear hi); have hcz24_0 : w23.cell? ⟨gb281, 0, none⟩ = some (.int .i64 a0_0) := (kH BK281.out 0).trans rfl; have hcz24_1 : w23.cell? ⟨gb281, 1, none⟩ = some (.int .i64 a0_1) := (kH BK281.out 1).trans rfl; have hfz24_0 := kJ BK281.out 0; have hfz24_1 := kJ BK281.out 1; have hcz25_0 : w23.cell? ⟨gb282, 0, none⟩ = some (.int .i64 0) := (kH BK282.out 0).trans rfl; have hcz25_1 : w23.cell? ⟨gb282, 1, none⟩ = some (.int .i64 0) := (kH BK282.out 1).trans rfl; have hfz25_0 := kJ BK282.out 0; have hfz25_1 := kJ BK282.out 1))
    refine bodyPost_ret (results_cell_row rfl _ _ gb282 25 #[.int .i64 a0_0, .int .i64 a0_1] (0, 0) _ rfl (by (with_reducible repeat (first | refine kC ?_ _ | refine kE ?_ | refine kD ?_ _)); refine blk_put (cs := #[.int .i64 a0_0, .int .i64 0]) ?_ 1 _ rfl; (with_reducible repeat (first | refine kC ?_ _ | refine kE ?_ | refine kD ?_ _)); refine blk_put (cs := #[.int .i64 0, .int .i64 0]) ?_ 0 _ rfl; (with_reducible repeat (first | refine kC ?_ _ | refine kE ?_ | refine kD ?_ _)); exact BK282.out) Try.underlying25 rfl (by kernel_rfl)) rfl ?_
    exact ⟨by first | rfl | (simp [errW_none, errW_some] <;> rfl) | (simp [*, errW_none, errW_some] <;> rfl), by repeat (first | (with_reducible first | exact HB.out | apply kF | apply kB | apply kG | refine kA ?_ GE281.out | refine kA ?_ GE282.out) | exact HB.out)⟩
noncomputable def dec_Trim.con (k : Nat) : Con
  | [.agg [.int .i64 a0_0, .int .i64 a0_1]] => some ((dec_Trim.f k a0_0 a0_1).isSome, .agg [.int .i64 (gd (dec_Trim.f k a0_0 a0_1)).1, .int .i64 (gd (dec_Trim.f k a0_0 a0_1)).2])
  | _ => none
set_option maxRecDepth 100000 in
theorem dec_Trim.cok (k : Nat) : COk Try.prog 23 (dec_Trim.con k) := by
  intro args p v hc hp w A hA
  unfold dec_Trim.con at hc
  split at hc
  · rename_i a0_0 a0_1
    simp only [Option.some.injEq, Prod.mk.injEq] at hc
    obtain ⟨rfl, rfl⟩ := hc
    rcases hf : dec_Trim.f k a0_0 a0_1 with _ | ⟨r1, r2⟩
    · rw [hf] at hp; cases hp
    obtain rfl : A = [.agg #[.int .i64 a0_0, .int .i64 a0_1]] := by simpa [rl_cons, rl_nil, rv_int, rv_bool, rv_str, rv_agg, rv_fn] using hA
    exact gives_of_calls (fn := Try.f23) Try.func23 (by kernel_rfl) (by kernel_rfl) (dec_Trim.calls _ _ _ _ _ w hf) (fun _ => by simp [gd_some, rl_cons, rl_nil, rv_int, rv_bool, rv_str, rv_agg, rv_tup]) (fun _ h => h)
  · cases hc
end Go.Proofs.Ytkongoedgngfhaa.P
namespace Go.Proofs.Ytkongoedgngfhaa.P
open Go.RowKit Go.Proofs.YtkongoedgngfhaaW.PrintWords Go.Proofs.YtkongoedgngfhaaW.PrintLast Go.Proofs.YtkongoedgngfhaaW.PrintMore
open Go.Proofs.Ytkongoedgngfhaa.A
attribute [local go_sem] max2_int min2_int max_two min_two max_three min_three max_four min_four   -- for this text's walks alone
set_option linter.unusedVariables false
set_option linter.unusedSimpArgs false
def computuslaw04_known.f (k : Nat)  : Option (Bool) := (dec_Read.f (⟨#[49, 50, 46, 51, 52, 48]⟩ : ByteArray)).bind fun bt284 => ((dec_Round.f k 25 1 0).bind fun bt288 => ((dec_Floor.f k (-5) 1).bind fun bt292 => ((dec_Trim.f k bt284.1 bt284.2.1).bind fun bt294 => ((dec_Text.f (-5) 1).bind fun t297 => (if t297.toList = ([45, 48, 46, 53] : List UInt8) then (if bt284.1 = 12340 then (if bt284.2.1 = 3 then (if bt284.2.2 = 0 then (if bt294.1 = 1234 then (if bt294.2 = 2 then (if bt288.1 = 3 then (if bt288.2.1 = 0 then (if bt288.2.2 = 0 then (if bt292.1 = (-1) then (some (bt292.2 == 0)) else (some false)) else (some false)) else (some false)) else (some false)) else (some false)) else (some false)) else (some false)) else (some false)) else (some false)) else (some false))))))
theorem computuslaw04_known.mono : ∀ k, LeO (computuslaw04_known.f k ) (computuslaw04_known.f (k + 1) ) := by
  intro  k
  unfold computuslaw04_known.f
  repeat' first
      | (with_reducible exact dec_Floor.mono _ _ _)
      | (with_reducible exact dec_Round.mono _ _ _ _)
      | (with_reducible exact dec_Trim.mono _ _ _)
      | (with_reducible exact LeO.refl _)
      | (with_reducible exact LeO.none _)
      | (with_reducible refine LeO.ite ?_ ?_)
      | (with_reducible refine LeO.bind ?_ (fun _ => ?_))
      | exact dec_Floor.mono _ _ _
      | exact dec_Round.mono _ _ _ _
      | exact dec_Trim.mono _ _ _
      | exact LeO.none _
      | refine LeO.ite ?_ ?_
      | refine LeO.bind ?_ (fun _ => ?_)
set_option maxRecDepth 100000 in
theorem computuslaw04_known.vc (k : Nat) (K : AV → Prop) : afv PA Try.prog (tab [(9, dec_Text.con), (11, dec_Read.con), (19, dec_Round.con k), (21, dec_Floor.con k), (23, dec_Trim.con k)]) noLoops 2 16 [] K = (brc (Option.isSome (dec_Read.f { data := #[49, 50, 46, 51, 52, 48] })) (∀ (m0 : Int), m0 = Prod.fst (gd (dec_Read.f { data := #[49, 50, 46, 51, 52, 48] })) → ∀ (m1 : Int), m1 = Prod.fst (Prod.snd (gd (dec_Read.f { data := #[49, 50, 46, 51, 52, 48] }))) → ∀ (m2 : Int), m2 = Prod.snd (Prod.snd (gd (dec_Read.f { data := #[49, 50, 46, 51, 52, 48] }))) → brc (Option.isSome (dec_Round.f k 25 1 0)) (∀ (m3 : Int), m3 = Prod.fst (gd (dec_Round.f k 25 1 0)) → ∀ (m4 : Int), m4 = Prod.fst (Prod.snd (gd (dec_Round.f k 25 1 0))) → ∀ (m5 : Int), m5 = Prod.snd (Prod.snd (gd (dec_Round.f k 25 1 0))) → brc (Option.isSome (dec_Floor.f k (-5) 1)) (∀ (m6 : Int), m6 = Prod.fst (gd (dec_Floor.f k (-5) 1)) → ∀ (m7 : Int), m7 = Prod.snd (gd (dec_Floor.f k (-5) 1)) → brc (Option.isSome (dec_Trim.f k m0 m1)) (∀ (m8 : Int), m8 = Prod.fst (gd (dec_Trim.f k m0 m1)) → ∀ (m9 : Int), m9 = Prod.snd (gd (dec_Trim.f k m0 m1)) → brc (Option.isSome (dec_Text.f (-5) 1)) (brc (ByteArray.toList (gd (dec_Text.f (-5) 1)) == ByteArray.toList { data := #[45, 48, 46, 53] }) (brc (m0 == 12340) (brc (m1 == 3) (brc (m2 == 0) (brc (m8 == 1234) (brc (m9 == 2) (brc (m3 == 3) (brc (m4 == 0) (brc (m5 == 0) (brc (m6 == -1) (K (AV.bool (m7 == 0))) (K (AV.bool false))) (K (AV.bool false))) (K (AV.bool false))) (K (AV.bool false))) (K (AV.bool false))) (K (AV.bool false))) (K (AV.bool false))) (K (AV.bool false))) (K (AV.bool false))) (K (AV.bool false))) False) False) False) False) False) := by kernel_rfl
set_option maxHeartbeats 1000000 in
set_option maxRecDepth 100000 in
theorem computuslaw04_known.calls (k : Nat)  (r : Bool) (w : World) (h : computuslaw04_known.f k  = some r) (hR : r = true) :
    Calls Try.prog 16 #[] w fun e w' => e = .returned (.bool r) ∧ Below w.heap.size w w' := by
  refine calls_of_vc (A := []) (v := .bool r) (tab_cons (dec_Text.cok) (tab_cons (dec_Read.cok) (tab_cons (dec_Round.cok k) (tab_cons (dec_Floor.cok k) (tab_cons (dec_Trim.cok k) (tab_nil)))))) ((computuslaw04_known.vc k _).mpr ?_) (by simp [rl_cons, rl_nil, rv_int, rv_bool, rv_str, rv_agg, rv_fn]) (fun ρ V' hV => by simpa [rl_cons, rl_nil, rv_int, rv_bool, rv_str, rv_agg, rv_tup] using hV)
  unfold computuslaw04_known.f at h
  (try simp only [bne, Option.bind_eq_some_iff, ite_some_iff] at h)
  (try simp only [bne, brc_iff, wrap_i64])
  first
    | grind (splits := 60) [gd_some]
    | ((repeat' (first | (have or_ : Or _ _ := h; clear or_; rcases h with h | h) | (have or_ : Exists _ := h; clear or_; obtain ⟨_, h⟩ := h) | (have or_ : And _ _ := h; clear or_; obtain ⟨hq_, h⟩ := h))) <;> (try simp only [Option.some.injEq, Prod.mk.injEq, reduceCtorEq] at h) <;> (try subst_vars) <;> first | (simp_all [gd_some] <;> (try omega) <;> done) | grind (splits := 60) [gd_some])
    | (intros; subst_vars; simp_all [gd_some]; done)
noncomputable def computuslaw04_known.con (k : Nat) : Con
  | [] => some (decide (computuslaw04_known.f k = some true), .bool true)
  | _ => none
set_option maxRecDepth 100000 in
theorem computuslaw04_known.cok (k : Nat) : COk Try.prog 16 (computuslaw04_known.con k) := by
  intro args p v hc hp w A hA
  unfold computuslaw04_known.con at hc
  split at hc
  · simp only [Option.some.injEq, Prod.mk.injEq] at hc
    obtain ⟨rfl, rfl⟩ := hc
    have hf := of_decide_eq_true hp
    obtain rfl : A = [] := by simpa [rl_cons, rl_nil, rv_int, rv_bool, rv_str, rv_agg, rv_fn] using hA
    exact gives_of_calls (fn := Try.f16) Try.func16 (by kernel_rfl) (by kernel_rfl) (computuslaw04_known.calls _ _ w hf rfl) (fun _ => by simp [gd_some, rl_cons, rl_nil, rv_int, rv_bool, rv_str, rv_agg, rv_tup]) (fun _ h => h)
  · cases hc
end Go.Proofs.Ytkongoedgngfhaa.P
namespace Go.Proofs.Ytkongoedgngfhaa.P
open Go.RowKit Go.Proofs.YtkongoedgngfhaaW.PrintWords Go.Proofs.YtkongoedgngfhaaW.PrintLast Go.Proofs.YtkongoedgngfhaaW.PrintMore
open Go.Proofs.Ytkongoedgngfhaa.A
attribute [local go_sem] max2_int min2_int max_two min_two max_three min_three max_four min_four   -- for this text's walks alone
set_option linter.unusedVariables false
set_option linter.unusedSimpArgs false
def dec_both.j0 : Nat → Bool → Int → Int → Int → Int → Option (Int × Int × Int × Int × Int)
  | 0, _, _, _, _, _ => none
  | k + 1, x19, x323000, x323001, x324000, x324001 => if x19 = true then (some (0, 0, 0, 0, 1)) else ((dec_Dec_to.f k x323000 x323001 (mx x323001 x324001)).bind fun bt328 => ((dec_Dec_to.f k x324000 x324001 (mx x323001 x324001)).bind fun bt332 => (some (bt328.1, bt328.2.1, bt332.1, bt332.2.1, mx bt328.2.2 bt332.2.2))))
def dec_both.f (k : Nat) (a0_0 : Int) (a0_1 : Int) (a1_0 : Int) (a1_1 : Int) : Option (Int × Int × Int × Int × Int) := (dec_Right.f a0_0 a0_1).bind fun t326 => (if t326 = true then ((dec_Right.f a1_0 a1_1).bind fun t327 => (dec_both.j0 k (!t327) a0_0 a0_1 a1_0 a1_1)) else (dec_both.j0 k true a0_0 a0_1 a1_0 a1_1))
set_option maxRecDepth 100000 in
theorem dec_both.vc (k : Nat) (a0_0 : Int) (a0_1 : Int) (a1_0 : Int) (a1_1 : Int) (K : AV → Prop) : afv PA Try.prog (tab [(31, dec_Right.con), (44, dec_Dec_to.con k)]) noLoops 2 42 [.agg [.int .i64 a0_0, .int .i64 a0_1], .agg [.int .i64 a1_0, .int .i64 a1_1]] K = (brc (Option.isSome (dec_Right.f a0_0 a0_1)) (∀ (m0 : Bool), m0 = gd (dec_Right.f a0_0 a0_1) → brc (!m0) (K (AV.tup [AV.agg [AV.int IntKind.i64 0, AV.int IntKind.i64 0], AV.agg [AV.int IntKind.i64 0, AV.int IntKind.i64 0], AV.int IntKind.i64 1])) (brc (Option.isSome (dec_Right.f a1_0 a1_1)) (∀ (m1 : Bool), m1 = gd (dec_Right.f a1_0 a1_1) → brc (!m1) (K (AV.tup [AV.agg [AV.int IntKind.i64 0, AV.int IntKind.i64 0], AV.agg [AV.int IntKind.i64 0, AV.int IntKind.i64 0], AV.int IntKind.i64 1])) (brc (Option.isSome (dec_Dec_to.f k a0_0 a0_1 (if a1_1 > a0_1 then a1_1 else a0_1))) (∀ (m2 : Int), m2 = Prod.fst (gd (dec_Dec_to.f k a0_0 a0_1 (if a1_1 > a0_1 then a1_1 else a0_1))) → ∀ (m3 : Int), m3 = Prod.fst (Prod.snd (gd (dec_Dec_to.f k a0_0 a0_1 (if a1_1 > a0_1 then a1_1 else a0_1)))) → ∀ (m4 : Int), m4 = Prod.snd (Prod.snd (gd (dec_Dec_to.f k a0_0 a0_1 (if a1_1 > a0_1 then a1_1 else a0_1)))) → brc (Option.isSome (dec_Dec_to.f k a1_0 a1_1 (if a1_1 > a0_1 then a1_1 else a0_1))) (∀ (m5 : Int), m5 = Prod.fst (gd (dec_Dec_to.f k a1_0 a1_1 (if a1_1 > a0_1 then a1_1 else a0_1))) → ∀ (m6 : Int), m6 = Prod.fst (Prod.snd (gd (dec_Dec_to.f k a1_0 a1_1 (if a1_1 > a0_1 then a1_1 else a0_1)))) → ∀ (m7 : Int), m7 = Prod.snd (Prod.snd (gd (dec_Dec_to.f k a1_0 a1_1 (if a1_1 > a0_1 then a1_1 else a0_1)))) → K (AV.tup [AV.agg [AV.int IntKind.i64 m2, AV.int IntKind.i64 m3], AV.agg [AV.int IntKind.i64 m5, AV.int IntKind.i64 m6], AV.int IntKind.i64 (if m7 > m4 then m7 else m4)])) False) False)) False)) False) := by kernel_rfl
set_option maxHeartbeats 1000000 in
set_option maxRecDepth 100000 in
theorem dec_both.calls (k : Nat) (a0_0 : Int) (a0_1 : Int) (a1_0 : Int) (a1_1 : Int) (r1 : Int) (r2 : Int) (r3 : Int) (r4 : Int) (r5 : Int) (w : World) (h : dec_both.f k a0_0 a0_1 a1_0 a1_1 = some (r1, r2, r3, r4, r5)) :
    Calls Try.prog 42 #[.agg #[.int .i64 a0_0, .int .i64 a0_1], .agg #[.int .i64 a1_0, .int .i64 a1_1]] w fun e w' => e = .returned (.tuple #[.agg #[.int .i64 r1, .int .i64 r2], .agg #[.int .i64 r3, .int .i64 r4], .int .i64 r5]) ∧ Below w.heap.size w w' := by
  refine calls_of_vc (A := [.agg #[.int .i64 a0_0, .int .i64 a0_1], .agg #[.int .i64 a1_0, .int .i64 a1_1]]) (v := .tup [.agg [.int .i64 r1, .int .i64 r2], .agg [.int .i64 r3, .int .i64 r4], .int .i64 r5]) (tab_cons (dec_Right.cok) (tab_cons (dec_Dec_to.cok k) (tab_nil))) ((dec_both.vc k a0_0 a0_1 a1_0 a1_1 _).mpr ?_) (by simp [rl_cons, rl_nil, rv_int, rv_bool, rv_str, rv_agg, rv_fn]) (fun ρ V' hV => by simpa [rl_cons, rl_nil, rv_int, rv_bool, rv_str, rv_agg, rv_tup] using hV)
  unfold dec_both.f at h
  cases k with
  | zero =>
    (try simp only [dec_both.j0] at h)
    (try simp only [bne, Option.bind_eq_some_iff, ite_some_iff] at h)
    (try simp only [bne, brc_iff, wrap_i64])
    first
      | grind (splits := 60) [gd_some, mx]
      | ((repeat' (first | (have or_ : Or _ _ := h; clear or_; rcases h with h | h) | (have or_ : Exists _ := h; clear or_; obtain ⟨_, h⟩ := h) | (have or_ : And _ _ := h; clear or_; obtain ⟨hq_, h⟩ := h))) <;> (try simp only [Option.some.injEq, Prod.mk.injEq, reduceCtorEq] at h) <;> (try subst_vars) <;> first | (simp_all [gd_some, mx] <;> (try omega) <;> done) | grind (splits := 60) [gd_some, mx])
      | (intros; subst_vars; simp_all [gd_some]; done)
  | succ k =>
    (try simp only [dec_both.j0] at h)
    (try simp only [bne, Option.bind_eq_some_iff, ite_some_iff] at h)
    (try simp only [bne, brc_iff, wrap_i64])
    first
      | grind (splits := 60) [gd_some, mx, dec_Dec_to.up]
      | ((repeat' (first | (have or_ : Or _ _ := h; clear or_; rcases h with h | h) | (have or_ : Exists _ := h; clear or_; obtain ⟨_, h⟩ := h) | (have or_ : And _ _ := h; clear or_; obtain ⟨hq_, h⟩ := h; (try first | replace hq_ := dec_Dec_to.le (n := k + 1) hq_ (by omega))))) <;> (try simp only [Option.some.injEq, Prod.mk.injEq, reduceCtorEq] at h) <;> (try subst_vars) <;> first | (simp_all [gd_some, mx] <;> (try omega) <;> done) | grind (splits := 60) [gd_some, mx, dec_Dec_to.up])
      | (intros; subst_vars; simp_all [gd_some]; done)
noncomputable def dec_both.con (k : Nat) : Con
  | [.agg [.int .i64 a0_0, .int .i64 a0_1], .agg [.int .i64 a1_0, .int .i64 a1_1]] => some ((dec_both.f k a0_0 a0_1 a1_0 a1_1).isSome, .tup [.agg [.int .i64 (gd (dec_both.f k a0_0 a0_1 a1_0 a1_1)).1, .int .i64 (gd (dec_both.f k a0_0 a0_1 a1_0 a1_1)).2.1], .agg [.int .i64 (gd (dec_both.f k a0_0 a0_1 a1_0 a1_1)).2.2.1, .int .i64 (gd (dec_both.f k a0_0 a0_1 a1_0 a1_1)).2.2.2.1], .int .i64 (gd (dec_both.f k a0_0 a0_1 a1_0 a1_1)).2.2.2.2])
  | _ => none
set_option maxRecDepth 100000 in
theorem dec_both.cok (k : Nat) : COk Try.prog 42 (dec_both.con k) := by
  intro args p v hc hp w A hA
  unfold dec_both.con at hc
  split at hc
  · rename_i a0_0 a0_1 a1_0 a1_1
    simp only [Option.some.injEq, Prod.mk.injEq] at hc
    obtain ⟨rfl, rfl⟩ := hc
    rcases hf : dec_both.f k a0_0 a0_1 a1_0 a1_1 with _ | ⟨r1, r2, r3, r4, r5⟩
    · rw [hf] at hp; cases hp
    obtain rfl : A = [.agg #[.int .i64 a0_0, .int .i64 a0_1], .agg #[.int .i64 a1_0, .int .i64 a1_1]] := by simpa [rl_cons, rl_nil, rv_int, rv_bool, rv_str, rv_agg, rv_fn] using hA
    exact gives_of_calls (fn := Try.f42) Try.func42 (by kernel_rfl) (by kernel_rfl) (dec_both.calls _ _ _ _ _ _ _ _ _ _ w hf) (fun _ => by simp [gd_some, rl_cons, rl_nil, rv_int, rv_bool, rv_str, rv_agg, rv_tup]) (fun _ h => h)
  · cases hc
end Go.Proofs.Ytkongoedgngfhaa.P
