import Derived.Test.YtimgphlfaninnaaGreatQpahojkofpm
import Derived.Test.YtimgphlfaninnaaGreatQofbcfccnhe
namespace Go.Proofs.YtimgphlfaninnaaGreat.P
open Go.RowKit Go.Proofs.YtimgphlfaninnaaGreatW.PrintWords Go.Proofs.YtimgphlfaninnaaGreatW.PrintLast Go.Proofs.YtimgphlfaninnaaGreatW.PrintMore
open Go.Proofs.YtimgphlfaninnaaGreat.A
 attribute [local go_sem] bF bD bL bM kY kZ bC bE
set_option linter.unusedVariables false
set_option linter.unusedSimpArgs false
def num_Div.f (k : Nat) (a0 : Int) (a1 : Int) : Option (Int × Int) := (num_Scale.f k a0 1 a1).bind fun bt123 => (some (bt123.1, bt123.2))
theorem num_Div.mono : ∀ a0 a1 k, LeO (num_Div.f k a0 a1) (num_Div.f (k + 1) a0 a1) := by
 intro a0 a1 k
 unfold num_Div.f
 repeat' first
  | (with_reducible exact num_Scale.mono _ _ _ _)
  | (with_reducible exact LeO.refl _)
  | (with_reducible exact LeO.none _)
  | (with_reducible refine LeO.ite ?_ ?_)
  | (with_reducible refine LeO.bind ?_ (fun _ => ?_))
  | exact num_Scale.mono _ _ _ _
  | exact LeO.none _
  | refine LeO.ite ?_ ?_
  | refine LeO.bind ?_ (fun _ => ?_)
set_option maxHeartbeats 8000000 in
set_option maxRecDepth 100000 in
theorem num_Div.calls (k : Nat) (a0 : Int) (a1 : Int) (r1 : Int) (r2 : Int) (w : World) (h : num_Div.f k a0 a1 = some (r1, r2)) :
 Calls Tryz.prog 74 #[.int .i64 a0, .int .i64 a1] w fun e w' => e = .returned (.tuple #[.int .i64 r1, .int .i64 r2]) ∧ Below w.heap.size w w' := by
 have HB := Aside0.mk (Below.refl w.heap.size w)
 have H : ((num_Scale.f k a0 1 a1).bind fun bt123 => (some (bt123.1, bt123.2))) = some (r1, r2) := h
 clear h
 replace H := Option.bind_eq_some_iff.mp H
 obtain ⟨⟨t123, t124⟩, A30, H⟩ := H
 replace H : (some (t123, t124)) = some (r1, r2) := H
 have A3 := Aside0.mk A30
 clear A30
 simp only [Option.some.injEq, Prod.mk.injEq] at H
 obtain ⟨rfl, rfl⟩ := H
 go_enter Tryz.func74, Tryz.ntmps74
 go_wp2_with (first | ((with_reducible refine kU (f := 112) rfl ?_); refine jD (some 8) rfl rfl Tryz.func112 (by kernel_rfl) rfl #[.int .i64 a0, .int .i64 1, .int .i64 a1] rfl (by (try simp only [List.map_toArray, List.map_cons, List.map_nil]); first | done | rfl | (simp only [List.length_drop, List.length_take]; rfl)) ?_; (with_reducible refine (num_Scale.calls k a0 1 a1 t123 t124 _ A3.out).mono ?_); rintro e w4 ⟨rfl, hb⟩; refine ⟨_, rfl, ?_⟩; have n0_ := Aside0.mk (below_step (by repeat (first | (with_reducible first | exact HB.out | apply below_alloc | apply pw_below_drewN | apply below_drew1) | exact HB.out)) hb); clear HB; have HB := n0_; clear n0_; (try clear hb); (try clear hb2); (try clear hk); (try clear hi)))
 go_ret2
 exact ⟨by first | rfl | (simp [errW_none, errW_some] <;> rfl) | (simp [*, errW_none, errW_some] <;> rfl), by repeat (first | (with_reducible first | exact HB.out | apply below_alloc | apply pw_below_drewN | apply below_drew1) | exact HB.out)⟩
def num_Mod.f (a0 : Int) (a1 : Int) : Option (Int × Int) := if a1 = 0 then (some (0, 11)) else (if a1 = (-1) then (some (0, 0)) else (if (Int.tmod a0 a1) = 0 then (some (Int.tmod a0 a1, 0)) else (if ((decide ((Int.tmod a0 a1) < 0)) != (decide (a1 < 0))) = true then (some (wrap64 ((Int.tmod a0 a1) + a1), 0)) else (some (Int.tmod a0 a1, 0)))))
set_option maxHeartbeats 8000000 in
set_option maxRecDepth 100000 in
theorem num_Mod.calls (a0 : Int) (a1 : Int) (r1 : Int) (r2 : Int) (w : World) (h : num_Mod.f a0 a1 = some (r1, r2)) :
 Calls Tryz.prog 75 #[.int .i64 a0, .int .i64 a1] w fun e w' => e = .returned (.tuple #[.int .i64 r1, .int .i64 r2]) ∧ Drawn0 w w' := by
 have H : (if a1 = 0 then (some (0, 11)) else (if a1 = (-1) then (some (0, 0)) else (if (Int.tmod a0 a1) = 0 then (some (Int.tmod a0 a1, 0)) else (if ((decide ((Int.tmod a0 a1) < 0)) != (decide (a1 < 0))) = true then (some (wrap64 ((Int.tmod a0 a1) + a1), 0)) else (some (Int.tmod a0 a1, 0)))))) = some (r1, r2) := h
 clear h
 by_cases c3 : a1 = 0
 · rw [if_pos c3] at H
   have c3b0 : (a1 == 0) = true := beq_iff_eq.mpr c3
   have c3b1 : (a1 != 0) = false := bne_eq_false_iff_eq.mpr c3
   clear c3
   simp only [Option.some.injEq, Prod.mk.injEq] at H
   obtain ⟨rfl, rfl⟩ := H
   go_enter Tryz.func75, Tryz.ntmps75
   go_wp2
   go_ret2
   exact ⟨by first | rfl | (simp; done) | (simp [*]; done), by repeat (first | exact Drawn0.refl _ | apply Drawn0.step)⟩
 · rw [if_neg c3] at H
   have c3b0 : (a1 == 0) = false := beq_eq_false_iff_ne.mpr c3
   have c3b1 : (a1 != 0) = true := bne_iff_ne.mpr c3
   by_cases c4 : a1 = (-1)
   · rw [if_pos c4] at H
     have c4b0 : (a1 == (-1)) = true := beq_iff_eq.mpr c4
     have c4b1 : (a1 != (-1)) = false := bne_eq_false_iff_eq.mpr c4
     clear c4
     simp only [Option.some.injEq, Prod.mk.injEq] at H
     obtain ⟨rfl, rfl⟩ := H
     go_enter Tryz.func75, Tryz.ntmps75
     go_wp2
     go_ret2
     exact ⟨by first | rfl | (simp; done) | (simp [*]; done), by repeat (first | exact Drawn0.refl _ | apply Drawn0.step)⟩
   · rw [if_neg c4] at H
     have c4b0 : (a1 == (-1)) = false := beq_eq_false_iff_ne.mpr c4
     have c4b1 : (a1 != (-1)) = true := bne_iff_ne.mpr c4
     by_cases c5 : (Int.tmod a0 a1) = 0
     · rw [if_pos c5] at H
       have c5b0 : ((Int.tmod a0 a1) == 0) = true := beq_iff_eq.mpr c5
       have c5b1 : ((Int.tmod a0 a1) != 0) = false := bne_eq_false_iff_eq.mpr c5
       clear c5
       simp only [Option.some.injEq, Prod.mk.injEq] at H
       obtain ⟨rfl, rfl⟩ := H
       go_enter Tryz.func75, Tryz.ntmps75
       go_wp2
       go_ret2
       exact ⟨by first | rfl | (simp; done) | (simp [*]; done), by repeat (first | exact Drawn0.refl _ | apply Drawn0.step)⟩
     · rw [if_neg c5] at H
       have c5b0 : ((Int.tmod a0 a1) == 0) = false := beq_eq_false_iff_ne.mpr c5
       have c5b1 : ((Int.tmod a0 a1) != 0) = true := bne_iff_ne.mpr c5
       by_cases c6 : ((decide ((Int.tmod a0 a1) < 0)) != (decide (a1 < 0))) = true
       · rw [if_pos c6] at H
         have c6b0 : ((decide ((Int.tmod a0 a1) < 0)) != (decide (a1 < 0))) = true := c6
         (try (have c6b1 : decide ((decide ((Int.tmod a0 a1) < 0)) = (decide (a1 < 0))) = false := by simpa using c6))
         (try (have c6b2 : ((decide ((Int.tmod a0 a1) < 0)) == (decide (a1 < 0))) = false := by simpa using c6))
         (try (have c6b3 : ¬ ((decide ((Int.tmod a0 a1) < 0)) = (decide (a1 < 0))) := by simpa using c6))
         clear c6
         simp only [Option.some.injEq, Prod.mk.injEq] at H
         obtain ⟨rfl, rfl⟩ := H
         go_enter Tryz.func75, Tryz.ntmps75
         go_wp2
         go_ret2
         exact ⟨by first | rfl | (simp; done) | (simp [*]; done), by repeat (first | exact Drawn0.refl _ | apply Drawn0.step)⟩
       · rw [if_neg c6] at H
         have c6b0 : ((decide ((Int.tmod a0 a1) < 0)) != (decide (a1 < 0))) = false := by simpa using c6
         (try (have c6b1 : decide ((decide ((Int.tmod a0 a1) < 0)) = (decide (a1 < 0))) = true := by simpa using c6))
         (try (have c6b2 : ((decide ((Int.tmod a0 a1) < 0)) == (decide (a1 < 0))) = true := by simpa using c6))
         clear c6
         simp only [Option.some.injEq, Prod.mk.injEq] at H
         obtain ⟨rfl, rfl⟩ := H
         go_enter Tryz.func75, Tryz.ntmps75
         go_wp2
         go_ret2
         exact ⟨by first | rfl | (simp; done) | (simp [*]; done), by repeat (first | exact Drawn0.refl _ | apply Drawn0.step)⟩
def bU.f (k : Nat) (a0 : Int) : Option (Int × Int) := (num_Div.f k a0 86400000000).bind fun bt125 => ((num_Mod.f a0 86400000000).bind fun bt127 => (some (bt125.1, bt127.1)))
theorem bU.mono : ∀ a0 k, LeO (bU.f k a0) (bU.f (k + 1) a0) := by
 intro a0 k
 unfold bU.f
 repeat' first
  | (with_reducible exact num_Div.mono _ _ _)
  | (with_reducible exact LeO.refl _)
  | (with_reducible exact LeO.none _)
  | (with_reducible refine LeO.ite ?_ ?_)
  | (with_reducible refine LeO.bind ?_ (fun _ => ?_))
  | exact num_Div.mono _ _ _
  | exact LeO.none _
  | refine LeO.ite ?_ ?_
  | refine LeO.bind ?_ (fun _ => ?_)
set_option maxHeartbeats 8000000 in
set_option maxRecDepth 100000 in
theorem bU.calls (k : Nat) (a0 : Int) (r1 : Int) (r2 : Int) (w : World) (h : bU.f k a0 = some (r1, r2)) :
 Calls Tryz.prog 94 #[.int .i64 a0] w fun e w' => e = .returned (.tuple #[.int .i64 r1, .int .i64 r2]) ∧ Below w.heap.size w w' := by
 have HB := Aside0.mk (Below.refl w.heap.size w)
 have H : ((num_Div.f k a0 86400000000).bind fun bt125 => ((num_Mod.f a0 86400000000).bind fun bt127 => (some (bt125.1, bt127.1)))) = some (r1, r2) := h
 clear h
 replace H := Option.bind_eq_some_iff.mp H
 obtain ⟨⟨t125, t126⟩, A20, H⟩ := H
 replace H : ((num_Mod.f a0 86400000000).bind fun bt127 => (some (t125, bt127.1))) = some (r1, r2) := H
 have A2 := Aside0.mk A20
 clear A20
 replace H := Option.bind_eq_some_iff.mp H
 obtain ⟨⟨t127, t128⟩, A30, H⟩ := H
 replace H : (some (t125, t127)) = some (r1, r2) := H
 have A3 := Aside0.mk A30
 clear A30
 simp only [Option.some.injEq, Prod.mk.injEq] at H
 obtain ⟨rfl, rfl⟩ := H
 go_enter Tryz.func94, Tryz.ntmps94
 go_wp2_with (first | ((with_reducible refine kU (f := 74) rfl ?_); refine jD (some 10) rfl rfl Tryz.func74 (by kernel_rfl) rfl #[.int .i64 a0, .int .i64 86400000000] rfl (by (try simp only [List.map_toArray, List.map_cons, List.map_nil]); first | done | rfl | (simp only [List.length_drop, List.length_take]; rfl)) ?_; (with_reducible refine (num_Div.calls k a0 86400000000 t125 t126 _ A2.out).mono ?_); rintro e w4 ⟨rfl, hb⟩; refine ⟨_, rfl, ?_⟩; have n0_ := Aside0.mk (below_step (by repeat (first | (with_reducible first | exact HB.out | apply below_alloc | apply pw_below_drewN | apply below_drew1) | exact HB.out)) hb); clear HB; have HB := n0_; clear n0_; (try clear hb); (try clear hb2); (try clear hk); (try clear hi)) | ((with_reducible refine kU (f := 75) rfl ?_); refine jD (some 15) rfl rfl Tryz.func75 (by kernel_rfl) rfl #[.int .i64 a0, .int .i64 86400000000] rfl (by (try simp only [List.map_toArray, List.map_cons, List.map_nil]); first | done | rfl | (simp only [List.length_drop, List.length_take]; rfl)) ?_; (with_reducible refine (num_Mod.calls a0 86400000000 t127 t128 _ A3.out).mono ?_); rintro e w' ⟨rfl, ⟨nd, rfl⟩⟩; refine ⟨_, rfl, ?_⟩))
 go_ret2
 exact ⟨by first | rfl | (simp [errW_none, errW_some] <;> rfl) | (simp [*, errW_none, errW_some] <;> rfl), by repeat (first | (with_reducible first | exact HB.out | apply below_alloc | apply pw_below_drewN | apply below_drew1) | exact HB.out)⟩
noncomputable def bU.con (k : Nat) : Con
 | [.int .i64 a0] => some ((bU.f k a0).isSome, .tup [.int .i64 (gd (bU.f k a0)).1, .int .i64 (gd (bU.f k a0)).2])
 | _ => none
set_option maxRecDepth 100000 in
theorem bU.cok (k : Nat) : COk Tryz.prog 94 (bU.con k) := by
 intro args p v hc hp w A hA
 unfold bU.con at hc
 split at hc
 · rename_i a0
   simp only [Option.some.injEq, Prod.mk.injEq] at hc
   obtain ⟨rfl, rfl⟩ := hc
   rcases hf : bU.f k a0 with _ | ⟨r1, r2⟩
   · rw [hf] at hp; cases hp
   obtain rfl : A = [.int .i64 a0] := by simpa [kF, kJ, kK, kO, kW, kV, jS] using hA
   exact kH (fn := Tryz.f94) Tryz.func94 (by kernel_rfl) (by kernel_rfl) (bU.calls _ _ _ _ w hf) (fun _ => by simp [kG, kF, kJ, kK, kO, kW, kV, bI]) (fun _ h => h)
 · cases hc
def bG.f (a0 : Int) (a1 : Int) : Option (Int × Int) := if a1 = 0 then (none) else (if (Int.tmod a0 a1) < 0 then (some (wrap64 ((wrap64 (Int.tdiv a0 a1)) - 1), wrap64 ((Int.tmod a0 a1) + a1))) else (some (wrap64 (Int.tdiv a0 a1), Int.tmod a0 a1)))
set_option maxHeartbeats 8000000 in
set_option maxRecDepth 100000 in
theorem bG.calls (a0 : Int) (a1 : Int) (r1 : Int) (r2 : Int) (w : World) (h : bG.f a0 a1 = some (r1, r2)) :
 Calls Tryz.prog 159 #[.int .i64 a0, .int .i64 a1] w fun e w' => e = .returned (.tuple #[.int .i64 r1, .int .i64 r2]) ∧ Drawn0 w w' := by
 have H : (if a1 = 0 then (none) else (if (Int.tmod a0 a1) < 0 then (some (wrap64 ((wrap64 (Int.tdiv a0 a1)) - 1), wrap64 ((Int.tmod a0 a1) + a1))) else (some (wrap64 (Int.tdiv a0 a1), Int.tmod a0 a1)))) = some (r1, r2) := h
 clear h
 by_cases c3 : a1 = 0
 · rw [if_pos c3] at H
   exact absurd H (by simp)
 · rw [if_neg c3] at H
   have c3b0 : (a1 == 0) = false := beq_eq_false_iff_ne.mpr c3
   have c3b1 : (a1 != 0) = true := bne_iff_ne.mpr c3
   by_cases c4 : (Int.tmod a0 a1) < 0
   · rw [if_pos c4] at H
     have c4b0 : decide ((Int.tmod a0 a1) < 0) = true := decide_eq_true c4
     clear c4
     simp only [Option.some.injEq, Prod.mk.injEq] at H
     obtain ⟨rfl, rfl⟩ := H
     go_enter Tryz.func159, Tryz.ntmps159
     go_wp2
     repeat (go_quiet (fail); try go_wp2)
     go_ret2
     exact ⟨by first | rfl | (simp; done) | (simp [*]; done), by repeat (first | exact Drawn0.refl _ | apply Drawn0.step)⟩
   · rw [if_neg c4] at H
     have c4b0 : decide ((Int.tmod a0 a1) < 0) = false := decide_eq_false c4
     clear c4
     simp only [Option.some.injEq, Prod.mk.injEq] at H
     obtain ⟨rfl, rfl⟩ := H
     go_enter Tryz.func159, Tryz.ntmps159
     go_wp2
     repeat (go_quiet (fail); try go_wp2)
     go_ret2
     exact ⟨by first | rfl | (simp; done) | (simp [*]; done), by repeat (first | exact Drawn0.refl _ | apply Drawn0.step)⟩
noncomputable def bG.con : Con
 | [.int .i64 a0, .int .i64 a1] => some ((bG.f a0 a1).isSome, .tup [.int .i64 (gd (bG.f a0 a1)).1, .int .i64 (gd (bG.f a0 a1)).2])
 | _ => none
set_option maxRecDepth 100000 in
theorem bG.cok : COk Tryz.prog 159 (bG.con) := by
 intro args p v hc hp w A hA
 unfold bG.con at hc
 split at hc
 · rename_i a0 a1
   simp only [Option.some.injEq, Prod.mk.injEq] at hc
   obtain ⟨rfl, rfl⟩ := hc
   rcases hf : bG.f a0 a1 with _ | ⟨r1, r2⟩
   · rw [hf] at hp; cases hp
   obtain rfl : A = [.int .i64 a0, .int .i64 a1] := by simpa [kF, kJ, kK, kO, kW, kV, jS] using hA
   exact kH (fn := Tryz.f159) Tryz.func159 (by kernel_rfl) (by kernel_rfl) (bG.calls _ _ _ _ w hf) (fun _ => by simp [kG, kF, kJ, kK, kO, kW, kV, bI]) (fun _ h => h.below)
 · cases hc
def jM.f (a0 : Int) (a1 : Int) (a2 : Int) : Option (Int) := if a1 ≤ 2 then ((bG.f (wrap64 (a0 - 1)) 400).bind fun bt129 => (some (wrap64 ((wrap64 ((wrap64 ((wrap64 ((wrap64 ((wrap64 ((wrap64 ((wrap64 (bt129.1 * 146097)) + (wrap64 (bt129.2 * 365)))) + (wrap64 (Int.tdiv bt129.2 4)))) - (wrap64 (Int.tdiv bt129.2 100)))) + (wrap64 (Int.tdiv (wrap64 ((wrap64 (153 * (wrap64 ((wrap64 (a1 + 12)) - 3)))) + 2)) 5)))) + a2)) - 1)) - 730425)))) else ((bG.f a0 400).bind fun bt131 => (some (wrap64 ((wrap64 ((wrap64 ((wrap64 ((wrap64 ((wrap64 ((wrap64 ((wrap64 (bt131.1 * 146097)) + (wrap64 (bt131.2 * 365)))) + (wrap64 (Int.tdiv bt131.2 4)))) - (wrap64 (Int.tdiv bt131.2 100)))) + (wrap64 (Int.tdiv (wrap64 ((wrap64 (153 * (wrap64 (a1 - 3)))) + 2)) 5)))) + a2)) - 1)) - 730425))))
set_option maxHeartbeats 8000000 in
set_option maxRecDepth 100000 in
theorem jM.calls (a0 : Int) (a1 : Int) (a2 : Int) (r : Int) (w : World) (h : jM.f a0 a1 a2 = some r) :
 Calls Tryz.prog 162 #[.int .i64 a0, .int .i64 a1, .int .i64 a2] w fun e w' => e = .returned (.int .i64 r) ∧ Drawn0 w w' := by
 have H : (if a1 ≤ 2 then ((bG.f (wrap64 (a0 - 1)) 400).bind fun bt129 => (some (wrap64 ((wrap64 ((wrap64 ((wrap64 ((wrap64 ((wrap64 ((wrap64 ((wrap64 (bt129.1 * 146097)) + (wrap64 (bt129.2 * 365)))) + (wrap64 (Int.tdiv bt129.2 4)))) - (wrap64 (Int.tdiv bt129.2 100)))) + (wrap64 (Int.tdiv (wrap64 ((wrap64 (153 * (wrap64 ((wrap64 (a1 + 12)) - 3)))) + 2)) 5)))) + a2)) - 1)) - 730425)))) else ((bG.f a0 400).bind fun bt131 => (some (wrap64 ((wrap64 ((wrap64 ((wrap64 ((wrap64 ((wrap64 ((wrap64 ((wrap64 (bt131.1 * 146097)) + (wrap64 (bt131.2 * 365)))) + (wrap64 (Int.tdiv bt131.2 4)))) - (wrap64 (Int.tdiv bt131.2 100)))) + (wrap64 (Int.tdiv (wrap64 ((wrap64 (153 * (wrap64 (a1 - 3)))) + 2)) 5)))) + a2)) - 1)) - 730425))))) = some r := h
 clear h
 by_cases c4 : a1 ≤ 2
 · rw [if_pos c4] at H
   have c4b0 : decide (a1 ≤ 2) = true := decide_eq_true c4
   clear c4
   replace H := Option.bind_eq_some_iff.mp H
   obtain ⟨⟨t129, t130⟩, A50, H⟩ := H
   replace H : (some (wrap64 ((wrap64 ((wrap64 ((wrap64 ((wrap64 ((wrap64 ((wrap64 ((wrap64 (t129 * 146097)) + (wrap64 (t130 * 365)))) + (wrap64 (Int.tdiv t130 4)))) - (wrap64 (Int.tdiv t130 100)))) + (wrap64 (Int.tdiv (wrap64 ((wrap64 (153 * (wrap64 ((wrap64 (a1 + 12)) - 3)))) + 2)) 5)))) + a2)) - 1)) - 730425))) = some r := H
   have A5 := Aside0.mk A50
   clear A50
   obtain rfl := Option.some.inj H
   go_enter Tryz.func162, Tryz.ntmps162
   go_wp2_with (first | ((with_reducible refine kU (f := 159) rfl ?_); refine jD (some 17) rfl rfl Tryz.func159 (by kernel_rfl) rfl #[.int .i64 (wrap64 (a0 - 1)), .int .i64 400] rfl (by (try simp only [List.map_toArray, List.map_cons, List.map_nil]); first | done | rfl | (simp only [List.length_drop, List.length_take]; rfl)) ?_; (with_reducible refine (bG.calls (wrap64 (a0 - 1)) 400 t129 t130 _ A5.out).mono ?_); rintro e w' ⟨rfl, ⟨nd, rfl⟩⟩; refine ⟨_, rfl, ?_⟩))
   go_ret
   exact ⟨by first | rfl | (simp; done) | (simp [*]; done), by repeat (first | exact Drawn0.refl _ | apply Drawn0.step)⟩
 · rw [if_neg c4] at H
   have c4b0 : decide (a1 ≤ 2) = false := decide_eq_false c4
   clear c4
   replace H := Option.bind_eq_some_iff.mp H
   obtain ⟨⟨t131, t132⟩, A60, H⟩ := H
   replace H : (some (wrap64 ((wrap64 ((wrap64 ((wrap64 ((wrap64 ((wrap64 ((wrap64 ((wrap64 (t131 * 146097)) + (wrap64 (t132 * 365)))) + (wrap64 (Int.tdiv t132 4)))) - (wrap64 (Int.tdiv t132 100)))) + (wrap64 (Int.tdiv (wrap64 ((wrap64 (153 * (wrap64 (a1 - 3)))) + 2)) 5)))) + a2)) - 1)) - 730425))) = some r := H
   have A6 := Aside0.mk A60
   clear A60
   obtain rfl := Option.some.inj H
   go_enter Tryz.func162, Tryz.ntmps162
   go_wp2_with (first | ((with_reducible refine kU (f := 159) rfl ?_); refine jD (some 17) rfl rfl Tryz.func159 (by kernel_rfl) rfl #[.int .i64 a0, .int .i64 400] rfl (by (try simp only [List.map_toArray, List.map_cons, List.map_nil]); first | done | rfl | (simp only [List.length_drop, List.length_take]; rfl)) ?_; (with_reducible refine (bG.calls a0 400 t131 t132 _ A6.out).mono ?_); rintro e w' ⟨rfl, ⟨nd, rfl⟩⟩; refine ⟨_, rfl, ?_⟩))
   go_ret
   exact ⟨by first | rfl | (simp; done) | (simp [*]; done), by repeat (first | exact Drawn0.refl _ | apply Drawn0.step)⟩
noncomputable def jM.con : Con
 | [.int .i64 a0, .int .i64 a1, .int .i64 a2] => some ((jM.f a0 a1 a2).isSome, .int .i64 (gd (jM.f a0 a1 a2)))
 | _ => none
set_option maxRecDepth 100000 in
theorem jM.cok : COk Tryz.prog 162 (jM.con) := by
 intro args p v hc hp w A hA
 unfold jM.con at hc
 split at hc
 · rename_i a0 a1 a2
   simp only [Option.some.injEq, Prod.mk.injEq] at hc
   obtain ⟨rfl, rfl⟩ := hc
   rcases hf : jM.f a0 a1 a2 with _ | r
   · rw [hf] at hp; cases hp
   obtain rfl : A = [.int .i64 a0, .int .i64 a1, .int .i64 a2] := by simpa [kF, kJ, kK, kO, kW, kV, jS] using hA
   exact kH (fn := Tryz.f162) Tryz.func162 (by kernel_rfl) (by kernel_rfl) (jM.calls _ _ _ _ w hf) (fun _ => by simp [kG, kF, kJ, kK, kO, kW, kV, bI]) (fun _ h => h.below)
 · cases hc
def civil_First.f  : Option (Int) := (jM.f (-4718) 1 1).bind fun t133 => (some t133)
set_option maxHeartbeats 8000000 in
set_option maxRecDepth 100000 in
theorem civil_First.calls  (r : Int) (w : World) (h : civil_First.f  = some r) :
 Calls Tryz.prog 128 #[] w fun e w' => e = .returned (.int .i64 r) ∧ Drawn0 w w' := by
 have H : ((jM.f (-4718) 1 1).bind fun t133 => (some t133)) = some r := h
 clear h
 replace H := Option.bind_eq_some_iff.mp H
 obtain ⟨t133, A10, H⟩ := H
 replace H : (some t133) = some r := H
 have A1 := Aside0.mk A10
 clear A10
 obtain rfl := Option.some.inj H
 go_enter Tryz.func128, Tryz.ntmps128
 go_wp2_with (first | ((with_reducible refine kU (f := 162) rfl ?_); refine jD (some 1) rfl rfl Tryz.func162 (by kernel_rfl) rfl #[.int .i64 (-4718), .int .i64 1, .int .i64 1] rfl (by (try simp only [List.map_toArray, List.map_cons, List.map_nil]); first | done | rfl | (simp only [List.length_drop, List.length_take]; rfl)) ?_; (with_reducible refine (jM.calls (-4718) 1 1 t133 _ A1.out).mono ?_); rintro e w' ⟨rfl, ⟨nd, rfl⟩⟩; refine ⟨_, rfl, ?_⟩))
 go_ret
 exact ⟨by first | rfl | (simp; done) | (simp [*]; done), by repeat (first | exact Drawn0.refl _ | apply Drawn0.step)⟩
def civil_Last.f  : Option (Int) := (jM.f 294282 12 31).bind fun t134 => (some t134)
set_option maxHeartbeats 8000000 in
set_option maxRecDepth 100000 in
theorem civil_Last.calls  (r : Int) (w : World) (h : civil_Last.f  = some r) :
 Calls Tryz.prog 129 #[] w fun e w' => e = .returned (.int .i64 r) ∧ Drawn0 w w' := by
 have H : ((jM.f 294282 12 31).bind fun t134 => (some t134)) = some r := h
 clear h
 replace H := Option.bind_eq_some_iff.mp H
 obtain ⟨t134, A10, H⟩ := H
 replace H : (some t134) = some r := H
 have A1 := Aside0.mk A10
 clear A10
 obtain rfl := Option.some.inj H
 go_enter Tryz.func129, Tryz.ntmps129
 go_wp2_with (first | ((with_reducible refine kU (f := 162) rfl ?_); refine jD (some 1) rfl rfl Tryz.func162 (by kernel_rfl) rfl #[.int .i64 294282, .int .i64 12, .int .i64 31] rfl (by (try simp only [List.map_toArray, List.map_cons, List.map_nil]); first | done | rfl | (simp only [List.length_drop, List.length_take]; rfl)) ?_; (with_reducible refine (jM.calls 294282 12 31 t134 _ A1.out).mono ?_); rintro e w' ⟨rfl, ⟨nd, rfl⟩⟩; refine ⟨_, rfl, ?_⟩))
 go_ret
 exact ⟨by first | rfl | (simp; done) | (simp [*]; done), by repeat (first | exact Drawn0.refl _ | apply Drawn0.step)⟩
def jP.f (a0 : Int) : Option (Bool) := (civil_First.f).bind fun t135 => (if a0 ≥ t135 then ((civil_Last.f).bind fun t136 => (some (decide (a0 ≤ t136)))) else (some false))
set_option maxHeartbeats 8000000 in
set_option maxRecDepth 100000 in
theorem jP.calls (a0 : Int) (r : Bool) (w : World) (h : jP.f a0 = some r) :
 Calls Tryz.prog 157 #[.int .i64 a0] w fun e w' => e = .returned (.bool r) ∧ Drawn0 w w' := by
 have H : ((civil_First.f).bind fun t135 => (if a0 ≥ t135 then ((civil_Last.f).bind fun t136 => (some (decide (a0 ≤ t136)))) else (some false))) = some r := h
 clear h
 replace H := Option.bind_eq_some_iff.mp H
 obtain ⟨t135, A20, H⟩ := H
 replace H : (if a0 ≥ t135 then ((civil_Last.f).bind fun t136 => (some (decide (a0 ≤ t136)))) else (some false)) = some r := H
 have A2 := Aside0.mk A20
 clear A20
 by_cases c3 : a0 ≥ t135
 · rw [if_pos c3] at H
   have c3b0 : decide (t135 ≤ a0) = true := decide_eq_true c3
   clear c3
   replace H := Option.bind_eq_some_iff.mp H
   obtain ⟨t136, A40, H⟩ := H
   replace H : (some (decide (a0 ≤ t136))) = some r := H
   have A4 := Aside0.mk A40
   clear A40
   obtain rfl := Option.some.inj H
   go_enter Tryz.func157, Tryz.ntmps157
   go_wp2_with (first | ((with_reducible refine kU (f := 128) rfl ?_); refine jD (some 4) rfl rfl Tryz.func128 (by kernel_rfl) rfl #[] rfl (by (try simp only [List.map_toArray, List.map_cons, List.map_nil]); first | done | rfl | (simp only [List.length_drop, List.length_take]; rfl)) ?_; (with_reducible refine (civil_First.calls  t135 _ A2.out).mono ?_); rintro e w' ⟨rfl, ⟨nd, rfl⟩⟩; refine ⟨_, rfl, ?_⟩) | (go_at_call 129; (with_reducible refine (civil_Last.calls  t136 _ A4.out).mono ?_); rintro e w' ⟨rfl, ⟨nd, rfl⟩⟩))
   go_ret
   exact ⟨by first | rfl | (simp; done) | (simp [*]; done), by repeat (first | exact Drawn0.refl _ | apply Drawn0.step)⟩
 · rw [if_neg c3] at H
   have c3b0 : decide (t135 ≤ a0) = false := decide_eq_false c3
   clear c3
   obtain rfl := Option.some.inj H
   go_enter Tryz.func157, Tryz.ntmps157
   go_wp2_with (first | ((with_reducible refine kU (f := 128) rfl ?_); refine jD (some 4) rfl rfl Tryz.func128 (by kernel_rfl) rfl #[] rfl (by (try simp only [List.map_toArray, List.map_cons, List.map_nil]); first | done | rfl | (simp only [List.length_drop, List.length_take]; rfl)) ?_; (with_reducible refine (civil_First.calls  t135 _ A2.out).mono ?_); rintro e w' ⟨rfl, ⟨nd, rfl⟩⟩; refine ⟨_, rfl, ?_⟩))
   go_ret
   exact ⟨by first | rfl | (simp; done) | (simp [*]; done), by repeat (first | exact Drawn0.refl _ | apply Drawn0.step)⟩
noncomputable def jP.con : Con
 | [.int .i64 a0] => some ((jP.f a0).isSome, .bool (gd (jP.f a0)))
 | _ => none
set_option maxRecDepth 100000 in
theorem jP.cok : COk Tryz.prog 157 (jP.con) := by
 intro args p v hc hp w A hA
 unfold jP.con at hc
 split at hc
 · rename_i a0
   simp only [Option.some.injEq, Prod.mk.injEq] at hc
   obtain ⟨rfl, rfl⟩ := hc
   rcases hf : jP.f a0 with _ | r
   · rw [hf] at hp; cases hp
   obtain rfl : A = [.int .i64 a0] := by simpa [kF, kJ, kK, kO, kW, kV, jS] using hA
   exact kH (fn := Tryz.f157) Tryz.func157 (by kernel_rfl) (by kernel_rfl) (jP.calls _ _ w hf) (fun _ => by simp [kG, kF, kJ, kK, kO, kW, kV, bI]) (fun _ h => h.below)
 · cases hc
end Go.Proofs.YtimgphlfaninnaaGreat.P
namespace Go.Proofs.YtimgphlfaninnaaGreat.P
open Go.RowKit Go.Proofs.YtimgphlfaninnaaGreatW.PrintWords Go.Proofs.YtimgphlfaninnaaGreatW.PrintLast Go.Proofs.YtimgphlfaninnaaGreatW.PrintMore
 attribute [local go_sem] bF bD bL bM kY kZ bC bE
set_option linter.unusedVariables false
set_option linter.unusedSimpArgs false
theorem eqA36 (d : Nat) (w : World) (x0 y0 : Int) (x1 y1 : Int) :
 (Op.equalIn (d + 2) 36 (.agg #[.int .i64 x0, .int .i64 x1]) (.agg #[.int .i64 y0, .int .i64 y1])).run Tryz.prog w = .ok (x0 == y0 && (x1 == y1)) w := by
 refine eqA_of Tryz.underlying36 (by kernel_rfl) ?_
 refine eqf_cons (by rfl) (by go_simp; rfl) (by go_simp; rfl) (by go_simp) ?_
 exact eqf_last (by rfl) (by go_simp; rfl) (by go_simp; rfl) (by go_simp)
end Go.Proofs.YtimgphlfaninnaaGreat.P
namespace Go.Proofs.YtimgphlfaninnaaGreat.P
open Go.RowKit Go.Proofs.YtimgphlfaninnaaGreatW.PrintWords Go.Proofs.YtimgphlfaninnaaGreatW.PrintLast Go.Proofs.YtimgphlfaninnaaGreatW.PrintMore
open Go.Proofs.YtimgphlfaninnaaGreat.A
 attribute [local go_sem] bF bD bL bM kY kZ bC bE
set_option linter.unusedVariables false
set_option linter.unusedSimpArgs false
attribute [local go_sem high] eqA36
def bO.f (a0 : Int) : Option (Int × Int × Int) := (bG.f (wrap64 (a0 + 730425)) 146097).bind fun bt137 => (if (wrap64 (Int.tdiv (wrap64 ((wrap64 (5 * (wrap64 ((wrap64 ((wrap64 (bt137.2 - (wrap64 ((mn (wrap64 (Int.tdiv bt137.2 36524)) 3) * 36524)))) - (wrap64 ((wrap64 (Int.tdiv (wrap64 (bt137.2 - (wrap64 ((mn (wrap64 (Int.tdiv bt137.2 36524)) 3) * 36524)))) 1461)) * 1461)))) - (wrap64 ((mn (wrap64 (Int.tdiv (wrap64 ((wrap64 (bt137.2 - (wrap64 ((mn (wrap64 (Int.tdiv bt137.2 36524)) 3) * 36524)))) - (wrap64 ((wrap64 (Int.tdiv (wrap64 (bt137.2 - (wrap64 ((mn (wrap64 (Int.tdiv bt137.2 36524)) 3) * 36524)))) 1461)) * 1461)))) 365)) 3) * 365)))))) + 2)) 153)) ≥ 10 then (some (wrap64 ((wrap64 ((wrap64 ((wrap64 ((wrap64 (bt137.1 * 400)) + (wrap64 ((mn (wrap64 (Int.tdiv bt137.2 36524)) 3) * 100)))) + (wrap64 ((wrap64 (Int.tdiv (wrap64 (bt137.2 - (wrap64 ((mn (wrap64 (Int.tdiv bt137.2 36524)) 3) * 36524)))) 1461)) * 4)))) + (mn (wrap64 (Int.tdiv (wrap64 ((wrap64 (bt137.2 - (wrap64 ((mn (wrap64 (Int.tdiv bt137.2 36524)) 3) * 36524)))) - (wrap64 ((wrap64 (Int.tdiv (wrap64 (bt137.2 - (wrap64 ((mn (wrap64 (Int.tdiv bt137.2 36524)) 3) * 36524)))) 1461)) * 1461)))) 365)) 3))) + 1), wrap64 ((wrap64 (Int.tdiv (wrap64 ((wrap64 (5 * (wrap64 ((wrap64 ((wrap64 (bt137.2 - (wrap64 ((mn (wrap64 (Int.tdiv bt137.2 36524)) 3) * 36524)))) - (wrap64 ((wrap64 (Int.tdiv (wrap64 (bt137.2 - (wrap64 ((mn (wrap64 (Int.tdiv bt137.2 36524)) 3) * 36524)))) 1461)) * 1461)))) - (wrap64 ((mn (wrap64 (Int.tdiv (wrap64 ((wrap64 (bt137.2 - (wrap64 ((mn (wrap64 (Int.tdiv bt137.2 36524)) 3) * 36524)))) - (wrap64 ((wrap64 (Int.tdiv (wrap64 (bt137.2 - (wrap64 ((mn (wrap64 (Int.tdiv bt137.2 36524)) 3) * 36524)))) 1461)) * 1461)))) 365)) 3) * 365)))))) + 2)) 153)) - 9), wrap64 ((wrap64 ((wrap64 ((wrap64 ((wrap64 (bt137.2 - (wrap64 ((mn (wrap64 (Int.tdiv bt137.2 36524)) 3) * 36524)))) - (wrap64 ((wrap64 (Int.tdiv (wrap64 (bt137.2 - (wrap64 ((mn (wrap64 (Int.tdiv bt137.2 36524)) 3) * 36524)))) 1461)) * 1461)))) - (wrap64 ((mn (wrap64 (Int.tdiv (wrap64 ((wrap64 (bt137.2 - (wrap64 ((mn (wrap64 (Int.tdiv bt137.2 36524)) 3) * 36524)))) - (wrap64 ((wrap64 (Int.tdiv (wrap64 (bt137.2 - (wrap64 ((mn (wrap64 (Int.tdiv bt137.2 36524)) 3) * 36524)))) 1461)) * 1461)))) 365)) 3) * 365)))) - (wrap64 (Int.tdiv (wrap64 ((wrap64 (153 * (wrap64 (Int.tdiv (wrap64 ((wrap64 (5 * (wrap64 ((wrap64 ((wrap64 (bt137.2 - (wrap64 ((mn (wrap64 (Int.tdiv bt137.2 36524)) 3) * 36524)))) - (wrap64 ((wrap64 (Int.tdiv (wrap64 (bt137.2 - (wrap64 ((mn (wrap64 (Int.tdiv bt137.2 36524)) 3) * 36524)))) 1461)) * 1461)))) - (wrap64 ((mn (wrap64 (Int.tdiv (wrap64 ((wrap64 (bt137.2 - (wrap64 ((mn (wrap64 (Int.tdiv bt137.2 36524)) 3) * 36524)))) - (wrap64 ((wrap64 (Int.tdiv (wrap64 (bt137.2 - (wrap64 ((mn (wrap64 (Int.tdiv bt137.2 36524)) 3) * 36524)))) 1461)) * 1461)))) 365)) 3) * 365)))))) + 2)) 153)))) + 2)) 5)))) + 1))) else (some (wrap64 ((wrap64 ((wrap64 ((wrap64 (bt137.1 * 400)) + (wrap64 ((mn (wrap64 (Int.tdiv bt137.2 36524)) 3) * 100)))) + (wrap64 ((wrap64 (Int.tdiv (wrap64 (bt137.2 - (wrap64 ((mn (wrap64 (Int.tdiv bt137.2 36524)) 3) * 36524)))) 1461)) * 4)))) + (mn (wrap64 (Int.tdiv (wrap64 ((wrap64 (bt137.2 - (wrap64 ((mn (wrap64 (Int.tdiv bt137.2 36524)) 3) * 36524)))) - (wrap64 ((wrap64 (Int.tdiv (wrap64 (bt137.2 - (wrap64 ((mn (wrap64 (Int.tdiv bt137.2 36524)) 3) * 36524)))) 1461)) * 1461)))) 365)) 3)), wrap64 ((wrap64 (Int.tdiv (wrap64 ((wrap64 (5 * (wrap64 ((wrap64 ((wrap64 (bt137.2 - (wrap64 ((mn (wrap64 (Int.tdiv bt137.2 36524)) 3) * 36524)))) - (wrap64 ((wrap64 (Int.tdiv (wrap64 (bt137.2 - (wrap64 ((mn (wrap64 (Int.tdiv bt137.2 36524)) 3) * 36524)))) 1461)) * 1461)))) - (wrap64 ((mn (wrap64 (Int.tdiv (wrap64 ((wrap64 (bt137.2 - (wrap64 ((mn (wrap64 (Int.tdiv bt137.2 36524)) 3) * 36524)))) - (wrap64 ((wrap64 (Int.tdiv (wrap64 (bt137.2 - (wrap64 ((mn (wrap64 (Int.tdiv bt137.2 36524)) 3) * 36524)))) 1461)) * 1461)))) 365)) 3) * 365)))))) + 2)) 153)) + 3), wrap64 ((wrap64 ((wrap64 ((wrap64 ((wrap64 (bt137.2 - (wrap64 ((mn (wrap64 (Int.tdiv bt137.2 36524)) 3) * 36524)))) - (wrap64 ((wrap64 (Int.tdiv (wrap64 (bt137.2 - (wrap64 ((mn (wrap64 (Int.tdiv bt137.2 36524)) 3) * 36524)))) 1461)) * 1461)))) - (wrap64 ((mn (wrap64 (Int.tdiv (wrap64 ((wrap64 (bt137.2 - (wrap64 ((mn (wrap64 (Int.tdiv bt137.2 36524)) 3) * 36524)))) - (wrap64 ((wrap64 (Int.tdiv (wrap64 (bt137.2 - (wrap64 ((mn (wrap64 (Int.tdiv bt137.2 36524)) 3) * 36524)))) 1461)) * 1461)))) 365)) 3) * 365)))) - (wrap64 (Int.tdiv (wrap64 ((wrap64 (153 * (wrap64 (Int.tdiv (wrap64 ((wrap64 (5 * (wrap64 ((wrap64 ((wrap64 (bt137.2 - (wrap64 ((mn (wrap64 (Int.tdiv bt137.2 36524)) 3) * 36524)))) - (wrap64 ((wrap64 (Int.tdiv (wrap64 (bt137.2 - (wrap64 ((mn (wrap64 (Int.tdiv bt137.2 36524)) 3) * 36524)))) 1461)) * 1461)))) - (wrap64 ((mn (wrap64 (Int.tdiv (wrap64 ((wrap64 (bt137.2 - (wrap64 ((mn (wrap64 (Int.tdiv bt137.2 36524)) 3) * 36524)))) - (wrap64 ((wrap64 (Int.tdiv (wrap64 (bt137.2 - (wrap64 ((mn (wrap64 (Int.tdiv bt137.2 36524)) 3) * 36524)))) 1461)) * 1461)))) 365)) 3) * 365)))))) + 2)) 153)))) + 2)) 5)))) + 1))))
set_option maxHeartbeats 8000000 in
set_option maxRecDepth 100000 in
theorem bO.calls (a0 : Int) (r1 : Int) (r2 : Int) (r3 : Int) (w : World) (h : bO.f a0 = some (r1, r2, r3)) :
 Calls Tryz.prog 158 #[.int .i64 a0] w fun e w' => e = .returned (.tuple #[.int .i64 r1, .int .i64 r2, .int .i64 r3]) ∧ Below w.heap.size w w' := by
 have HB := Aside0.mk (Below.refl w.heap.size w)
 have H : ((bG.f (wrap64 (a0 + 730425)) 146097).bind fun bt137 => (if (wrap64 (Int.tdiv (wrap64 ((wrap64 (5 * (wrap64 ((wrap64 ((wrap64 (bt137.2 - (wrap64 ((mn (wrap64 (Int.tdiv bt137.2 36524)) 3) * 36524)))) - (wrap64 ((wrap64 (Int.tdiv (wrap64 (bt137.2 - (wrap64 ((mn (wrap64 (Int.tdiv bt137.2 36524)) 3) * 36524)))) 1461)) * 1461)))) - (wrap64 ((mn (wrap64 (Int.tdiv (wrap64 ((wrap64 (bt137.2 - (wrap64 ((mn (wrap64 (Int.tdiv bt137.2 36524)) 3) * 36524)))) - (wrap64 ((wrap64 (Int.tdiv (wrap64 (bt137.2 - (wrap64 ((mn (wrap64 (Int.tdiv bt137.2 36524)) 3) * 36524)))) 1461)) * 1461)))) 365)) 3) * 365)))))) + 2)) 153)) ≥ 10 then (some (wrap64 ((wrap64 ((wrap64 ((wrap64 ((wrap64 (bt137.1 * 400)) + (wrap64 ((mn (wrap64 (Int.tdiv bt137.2 36524)) 3) * 100)))) + (wrap64 ((wrap64 (Int.tdiv (wrap64 (bt137.2 - (wrap64 ((mn (wrap64 (Int.tdiv bt137.2 36524)) 3) * 36524)))) 1461)) * 4)))) + (mn (wrap64 (Int.tdiv (wrap64 ((wrap64 (bt137.2 - (wrap64 ((mn (wrap64 (Int.tdiv bt137.2 36524)) 3) * 36524)))) - (wrap64 ((wrap64 (Int.tdiv (wrap64 (bt137.2 - (wrap64 ((mn (wrap64 (Int.tdiv bt137.2 36524)) 3) * 36524)))) 1461)) * 1461)))) 365)) 3))) + 1), wrap64 ((wrap64 (Int.tdiv (wrap64 ((wrap64 (5 * (wrap64 ((wrap64 ((wrap64 (bt137.2 - (wrap64 ((mn (wrap64 (Int.tdiv bt137.2 36524)) 3) * 36524)))) - (wrap64 ((wrap64 (Int.tdiv (wrap64 (bt137.2 - (wrap64 ((mn (wrap64 (Int.tdiv bt137.2 36524)) 3) * 36524)))) 1461)) * 1461)))) - (wrap64 ((mn (wrap64 (Int.tdiv (wrap64 ((wrap64 (bt137.2 - (wrap64 ((mn (wrap64 (Int.tdiv bt137.2 36524)) 3) * 36524)))) - (wrap64 ((wrap64 (Int.tdiv (wrap64 (bt137.2 - (wrap64 ((mn (wrap64 (Int.tdiv bt137.2 36524)) 3) * 36524)))) 1461)) * 1461)))) 365)) 3) * 365)))))) + 2)) 153)) - 9), wrap64 ((wrap64 ((wrap64 ((wrap64 ((wrap64 (bt137.2 - (wrap64 ((mn (wrap64 (Int.tdiv bt137.2 36524)) 3) * 36524)))) - (wrap64 ((wrap64 (Int.tdiv (wrap64 (bt137.2 - (wrap64 ((mn (wrap64 (Int.tdiv bt137.2 36524)) 3) * 36524)))) 1461)) * 1461)))) - (wrap64 ((mn (wrap64 (Int.tdiv (wrap64 ((wrap64 (bt137.2 - (wrap64 ((mn (wrap64 (Int.tdiv bt137.2 36524)) 3) * 36524)))) - (wrap64 ((wrap64 (Int.tdiv (wrap64 (bt137.2 - (wrap64 ((mn (wrap64 (Int.tdiv bt137.2 36524)) 3) * 36524)))) 1461)) * 1461)))) 365)) 3) * 365)))) - (wrap64 (Int.tdiv (wrap64 ((wrap64 (153 * (wrap64 (Int.tdiv (wrap64 ((wrap64 (5 * (wrap64 ((wrap64 ((wrap64 (bt137.2 - (wrap64 ((mn (wrap64 (Int.tdiv bt137.2 36524)) 3) * 36524)))) - (wrap64 ((wrap64 (Int.tdiv (wrap64 (bt137.2 - (wrap64 ((mn (wrap64 (Int.tdiv bt137.2 36524)) 3) * 36524)))) 1461)) * 1461)))) - (wrap64 ((mn (wrap64 (Int.tdiv (wrap64 ((wrap64 (bt137.2 - (wrap64 ((mn (wrap64 (Int.tdiv bt137.2 36524)) 3) * 36524)))) - (wrap64 ((wrap64 (Int.tdiv (wrap64 (bt137.2 - (wrap64 ((mn (wrap64 (Int.tdiv bt137.2 36524)) 3) * 36524)))) 1461)) * 1461)))) 365)) 3) * 365)))))) + 2)) 153)))) + 2)) 5)))) + 1))) else (some (wrap64 ((wrap64 ((wrap64 ((wrap64 (bt137.1 * 400)) + (wrap64 ((mn (wrap64 (Int.tdiv bt137.2 36524)) 3) * 100)))) + (wrap64 ((wrap64 (Int.tdiv (wrap64 (bt137.2 - (wrap64 ((mn (wrap64 (Int.tdiv bt137.2 36524)) 3) * 36524)))) 1461)) * 4)))) + (mn (wrap64 (Int.tdiv (wrap64 ((wrap64 (bt137.2 - (wrap64 ((mn (wrap64 (Int.tdiv bt137.2 36524)) 3) * 36524)))) - (wrap64 ((wrap64 (Int.tdiv (wrap64 (bt137.2 - (wrap64 ((mn (wrap64 (Int.tdiv bt137.2 36524)) 3) * 36524)))) 1461)) * 1461)))) 365)) 3)), wrap64 ((wrap64 (Int.tdiv (wrap64 ((wrap64 (5 * (wrap64 ((wrap64 ((wrap64 (bt137.2 - (wrap64 ((mn (wrap64 (Int.tdiv bt137.2 36524)) 3) * 36524)))) - (wrap64 ((wrap64 (Int.tdiv (wrap64 (bt137.2 - (wrap64 ((mn (wrap64 (Int.tdiv bt137.2 36524)) 3) * 36524)))) 1461)) * 1461)))) - (wrap64 ((mn (wrap64 (Int.tdiv (wrap64 ((wrap64 (bt137.2 - (wrap64 ((mn (wrap64 (Int.tdiv bt137.2 36524)) 3) * 36524)))) - (wrap64 ((wrap64 (Int.tdiv (wrap64 (bt137.2 - (wrap64 ((mn (wrap64 (Int.tdiv bt137.2 36524)) 3) * 36524)))) 1461)) * 1461)))) 365)) 3) * 365)))))) + 2)) 153)) + 3), wrap64 ((wrap64 ((wrap64 ((wrap64 ((wrap64 (bt137.2 - (wrap64 ((mn (wrap64 (Int.tdiv bt137.2 36524)) 3) * 36524)))) - (wrap64 ((wrap64 (Int.tdiv (wrap64 (bt137.2 - (wrap64 ((mn (wrap64 (Int.tdiv bt137.2 36524)) 3) * 36524)))) 1461)) * 1461)))) - (wrap64 ((mn (wrap64 (Int.tdiv (wrap64 ((wrap64 (bt137.2 - (wrap64 ((mn (wrap64 (Int.tdiv bt137.2 36524)) 3) * 36524)))) - (wrap64 ((wrap64 (Int.tdiv (wrap64 (bt137.2 - (wrap64 ((mn (wrap64 (Int.tdiv bt137.2 36524)) 3) * 36524)))) 1461)) * 1461)))) 365)) 3) * 365)))) - (wrap64 (Int.tdiv (wrap64 ((wrap64 (153 * (wrap64 (Int.tdiv (wrap64 ((wrap64 (5 * (wrap64 ((wrap64 ((wrap64 (bt137.2 - (wrap64 ((mn (wrap64 (Int.tdiv bt137.2 36524)) 3) * 36524)))) - (wrap64 ((wrap64 (Int.tdiv (wrap64 (bt137.2 - (wrap64 ((mn (wrap64 (Int.tdiv bt137.2 36524)) 3) * 36524)))) 1461)) * 1461)))) - (wrap64 ((mn (wrap64 (Int.tdiv (wrap64 ((wrap64 (bt137.2 - (wrap64 ((mn (wrap64 (Int.tdiv bt137.2 36524)) 3) * 36524)))) - (wrap64 ((wrap64 (Int.tdiv (wrap64 (bt137.2 - (wrap64 ((mn (wrap64 (Int.tdiv bt137.2 36524)) 3) * 36524)))) 1461)) * 1461)))) 365)) 3) * 365)))))) + 2)) 153)))) + 2)) 5)))) + 1))))) = some (r1, r2, r3) := h
 clear h
 replace H := Option.bind_eq_some_iff.mp H
 obtain ⟨⟨t137, t138⟩, A20, H⟩ := H
 replace H : (if (wrap64 (Int.tdiv (wrap64 ((wrap64 (5 * (wrap64 ((wrap64 ((wrap64 (t138 - (wrap64 ((mn (wrap64 (Int.tdiv t138 36524)) 3) * 36524)))) - (wrap64 ((wrap64 (Int.tdiv (wrap64 (t138 - (wrap64 ((mn (wrap64 (Int.tdiv t138 36524)) 3) * 36524)))) 1461)) * 1461)))) - (wrap64 ((mn (wrap64 (Int.tdiv (wrap64 ((wrap64 (t138 - (wrap64 ((mn (wrap64 (Int.tdiv t138 36524)) 3) * 36524)))) - (wrap64 ((wrap64 (Int.tdiv (wrap64 (t138 - (wrap64 ((mn (wrap64 (Int.tdiv t138 36524)) 3) * 36524)))) 1461)) * 1461)))) 365)) 3) * 365)))))) + 2)) 153)) ≥ 10 then (some (wrap64 ((wrap64 ((wrap64 ((wrap64 ((wrap64 (t137 * 400)) + (wrap64 ((mn (wrap64 (Int.tdiv t138 36524)) 3) * 100)))) + (wrap64 ((wrap64 (Int.tdiv (wrap64 (t138 - (wrap64 ((mn (wrap64 (Int.tdiv t138 36524)) 3) * 36524)))) 1461)) * 4)))) + (mn (wrap64 (Int.tdiv (wrap64 ((wrap64 (t138 - (wrap64 ((mn (wrap64 (Int.tdiv t138 36524)) 3) * 36524)))) - (wrap64 ((wrap64 (Int.tdiv (wrap64 (t138 - (wrap64 ((mn (wrap64 (Int.tdiv t138 36524)) 3) * 36524)))) 1461)) * 1461)))) 365)) 3))) + 1), wrap64 ((wrap64 (Int.tdiv (wrap64 ((wrap64 (5 * (wrap64 ((wrap64 ((wrap64 (t138 - (wrap64 ((mn (wrap64 (Int.tdiv t138 36524)) 3) * 36524)))) - (wrap64 ((wrap64 (Int.tdiv (wrap64 (t138 - (wrap64 ((mn (wrap64 (Int.tdiv t138 36524)) 3) * 36524)))) 1461)) * 1461)))) - (wrap64 ((mn (wrap64 (Int.tdiv (wrap64 ((wrap64 (t138 - (wrap64 ((mn (wrap64 (Int.tdiv t138 36524)) 3) * 36524)))) - (wrap64 ((wrap64 (Int.tdiv (wrap64 (t138 - (wrap64 ((mn (wrap64 (Int.tdiv t138 36524)) 3) * 36524)))) 1461)) * 1461)))) 365)) 3) * 365)))))) + 2)) 153)) - 9), wrap64 ((wrap64 ((wrap64 ((wrap64 ((wrap64 (t138 - (wrap64 ((mn (wrap64 (Int.tdiv t138 36524)) 3) * 36524)))) - (wrap64 ((wrap64 (Int.tdiv (wrap64 (t138 - (wrap64 ((mn (wrap64 (Int.tdiv t138 36524)) 3) * 36524)))) 1461)) * 1461)))) - (wrap64 ((mn (wrap64 (Int.tdiv (wrap64 ((wrap64 (t138 - (wrap64 ((mn (wrap64 (Int.tdiv t138 36524)) 3) * 36524)))) - (wrap64 ((wrap64 (Int.tdiv (wrap64 (t138 - (wrap64 ((mn (wrap64 (Int.tdiv t138 36524)) 3) * 36524)))) 1461)) * 1461)))) 365)) 3) * 365)))) - (wrap64 (Int.tdiv (wrap64 ((wrap64 (153 * (wrap64 (Int.tdiv (wrap64 ((wrap64 (5 * (wrap64 ((wrap64 ((wrap64 (t138 - (wrap64 ((mn (wrap64 (Int.tdiv t138 36524)) 3) * 36524)))) - (wrap64 ((wrap64 (Int.tdiv (wrap64 (t138 - (wrap64 ((mn (wrap64 (Int.tdiv t138 36524)) 3) * 36524)))) 1461)) * 1461)))) - (wrap64 ((mn (wrap64 (Int.tdiv (wrap64 ((wrap64 (t138 - (wrap64 ((mn (wrap64 (Int.tdiv t138 36524)) 3) * 36524)))) - (wrap64 ((wrap64 (Int.tdiv (wrap64 (t138 - (wrap64 ((mn (wrap64 (Int.tdiv t138 36524)) 3) * 36524)))) 1461)) * 1461)))) 365)) 3) * 365)))))) + 2)) 153)))) + 2)) 5)))) + 1))) else (some (wrap64 ((wrap64 ((wrap64 ((wrap64 (t137 * 400)) + (wrap64 ((mn (wrap64 (Int.tdiv t138 36524)) 3) * 100)))) + (wrap64 ((wrap64 (Int.tdiv (wrap64 (t138 - (wrap64 ((mn (wrap64 (Int.tdiv t138 36524)) 3) * 36524)))) 1461)) * 4)))) + (mn (wrap64 (Int.tdiv (wrap64 ((wrap64 (t138 - (wrap64 ((mn (wrap64 (Int.tdiv t138 36524)) 3) * 36524)))) - (wrap64 ((wrap64 (Int.tdiv (wrap64 (t138 - (wrap64 ((mn (wrap64 (Int.tdiv t138 36524)) 3) * 36524)))) 1461)) * 1461)))) 365)) 3)), wrap64 ((wrap64 (Int.tdiv (wrap64 ((wrap64 (5 * (wrap64 ((wrap64 ((wrap64 (t138 - (wrap64 ((mn (wrap64 (Int.tdiv t138 36524)) 3) * 36524)))) - (wrap64 ((wrap64 (Int.tdiv (wrap64 (t138 - (wrap64 ((mn (wrap64 (Int.tdiv t138 36524)) 3) * 36524)))) 1461)) * 1461)))) - (wrap64 ((mn (wrap64 (Int.tdiv (wrap64 ((wrap64 (t138 - (wrap64 ((mn (wrap64 (Int.tdiv t138 36524)) 3) * 36524)))) - (wrap64 ((wrap64 (Int.tdiv (wrap64 (t138 - (wrap64 ((mn (wrap64 (Int.tdiv t138 36524)) 3) * 36524)))) 1461)) * 1461)))) 365)) 3) * 365)))))) + 2)) 153)) + 3), wrap64 ((wrap64 ((wrap64 ((wrap64 ((wrap64 (t138 - (wrap64 ((mn (wrap64 (Int.tdiv t138 36524)) 3) * 36524)))) - (wrap64 ((wrap64 (Int.tdiv (wrap64 (t138 - (wrap64 ((mn (wrap64 (Int.tdiv t138 36524)) 3) * 36524)))) 1461)) * 1461)))) - (wrap64 ((mn (wrap64 (Int.tdiv (wrap64 ((wrap64 (t138 - (wrap64 ((mn (wrap64 (Int.tdiv t138 36524)) 3) * 36524)))) - (wrap64 ((wrap64 (Int.tdiv (wrap64 (t138 - (wrap64 ((mn (wrap64 (Int.tdiv t138 36524)) 3) * 36524)))) 1461)) * 1461)))) 365)) 3) * 365)))) - (wrap64 (Int.tdiv (wrap64 ((wrap64 (153 * (wrap64 (Int.tdiv (wrap64 ((wrap64 (5 * (wrap64 ((wrap64 ((wrap64 (t138 - (wrap64 ((mn (wrap64 (Int.tdiv t138 36524)) 3) * 36524)))) - (wrap64 ((wrap64 (Int.tdiv (wrap64 (t138 - (wrap64 ((mn (wrap64 (Int.tdiv t138 36524)) 3) * 36524)))) 1461)) * 1461)))) - (wrap64 ((mn (wrap64 (Int.tdiv (wrap64 ((wrap64 (t138 - (wrap64 ((mn (wrap64 (Int.tdiv t138 36524)) 3) * 36524)))) - (wrap64 ((wrap64 (Int.tdiv (wrap64 (t138 - (wrap64 ((mn (wrap64 (Int.tdiv t138 36524)) 3) * 36524)))) 1461)) * 1461)))) 365)) 3) * 365)))))) + 2)) 153)))) + 2)) 5)))) + 1)))) = some (r1, r2, r3) := H
 have A2 := Aside0.mk A20
 clear A20
 obtain ⟨ji3, hji3⟩ : ∃ j_ : Int, (mn (wrap64 (Int.tdiv t138 36524)) 3) = j_ := ⟨_, rfl⟩
 replace H : (if (wrap64 (Int.tdiv (wrap64 ((wrap64 (5 * (wrap64 ((wrap64 ((wrap64 (t138 - (wrap64 ((ji3) * 36524)))) - (wrap64 ((wrap64 (Int.tdiv (wrap64 (t138 - (wrap64 ((ji3) * 36524)))) 1461)) * 1461)))) - (wrap64 ((mn (wrap64 (Int.tdiv (wrap64 ((wrap64 (t138 - (wrap64 ((ji3) * 36524)))) - (wrap64 ((wrap64 (Int.tdiv (wrap64 (t138 - (wrap64 ((ji3) * 36524)))) 1461)) * 1461)))) 365)) 3) * 365)))))) + 2)) 153)) ≥ 10 then (some (wrap64 ((wrap64 ((wrap64 ((wrap64 ((wrap64 (t137 * 400)) + (wrap64 ((ji3) * 100)))) + (wrap64 ((wrap64 (Int.tdiv (wrap64 (t138 - (wrap64 ((ji3) * 36524)))) 1461)) * 4)))) + (mn (wrap64 (Int.tdiv (wrap64 ((wrap64 (t138 - (wrap64 ((ji3) * 36524)))) - (wrap64 ((wrap64 (Int.tdiv (wrap64 (t138 - (wrap64 ((ji3) * 36524)))) 1461)) * 1461)))) 365)) 3))) + 1), wrap64 ((wrap64 (Int.tdiv (wrap64 ((wrap64 (5 * (wrap64 ((wrap64 ((wrap64 (t138 - (wrap64 ((ji3) * 36524)))) - (wrap64 ((wrap64 (Int.tdiv (wrap64 (t138 - (wrap64 ((ji3) * 36524)))) 1461)) * 1461)))) - (wrap64 ((mn (wrap64 (Int.tdiv (wrap64 ((wrap64 (t138 - (wrap64 ((ji3) * 36524)))) - (wrap64 ((wrap64 (Int.tdiv (wrap64 (t138 - (wrap64 ((ji3) * 36524)))) 1461)) * 1461)))) 365)) 3) * 365)))))) + 2)) 153)) - 9), wrap64 ((wrap64 ((wrap64 ((wrap64 ((wrap64 (t138 - (wrap64 ((ji3) * 36524)))) - (wrap64 ((wrap64 (Int.tdiv (wrap64 (t138 - (wrap64 ((ji3) * 36524)))) 1461)) * 1461)))) - (wrap64 ((mn (wrap64 (Int.tdiv (wrap64 ((wrap64 (t138 - (wrap64 ((ji3) * 36524)))) - (wrap64 ((wrap64 (Int.tdiv (wrap64 (t138 - (wrap64 ((ji3) * 36524)))) 1461)) * 1461)))) 365)) 3) * 365)))) - (wrap64 (Int.tdiv (wrap64 ((wrap64 (153 * (wrap64 (Int.tdiv (wrap64 ((wrap64 (5 * (wrap64 ((wrap64 ((wrap64 (t138 - (wrap64 ((ji3) * 36524)))) - (wrap64 ((wrap64 (Int.tdiv (wrap64 (t138 - (wrap64 ((ji3) * 36524)))) 1461)) * 1461)))) - (wrap64 ((mn (wrap64 (Int.tdiv (wrap64 ((wrap64 (t138 - (wrap64 ((ji3) * 36524)))) - (wrap64 ((wrap64 (Int.tdiv (wrap64 (t138 - (wrap64 ((ji3) * 36524)))) 1461)) * 1461)))) 365)) 3) * 365)))))) + 2)) 153)))) + 2)) 5)))) + 1))) else (some (wrap64 ((wrap64 ((wrap64 ((wrap64 (t137 * 400)) + (wrap64 ((ji3) * 100)))) + (wrap64 ((wrap64 (Int.tdiv (wrap64 (t138 - (wrap64 ((ji3) * 36524)))) 1461)) * 4)))) + (mn (wrap64 (Int.tdiv (wrap64 ((wrap64 (t138 - (wrap64 ((ji3) * 36524)))) - (wrap64 ((wrap64 (Int.tdiv (wrap64 (t138 - (wrap64 ((ji3) * 36524)))) 1461)) * 1461)))) 365)) 3)), wrap64 ((wrap64 (Int.tdiv (wrap64 ((wrap64 (5 * (wrap64 ((wrap64 ((wrap64 (t138 - (wrap64 ((ji3) * 36524)))) - (wrap64 ((wrap64 (Int.tdiv (wrap64 (t138 - (wrap64 ((ji3) * 36524)))) 1461)) * 1461)))) - (wrap64 ((mn (wrap64 (Int.tdiv (wrap64 ((wrap64 (t138 - (wrap64 ((ji3) * 36524)))) - (wrap64 ((wrap64 (Int.tdiv (wrap64 (t138 - (wrap64 ((ji3) * 36524)))) 1461)) * 1461)))) 365)) 3) * 365)))))) + 2)) 153)) + 3), wrap64 ((wrap64 ((wrap64 ((wrap64 ((wrap64 (t138 - (wrap64 ((ji3) * 36524)))) - (wrap64 ((wrap64 (Int.tdiv (wrap64 (t138 - (wrap64 ((ji3) * 36524)))) 1461)) * 1461)))) - (wrap64 ((mn (wrap64 (Int.tdiv (wrap64 ((wrap64 (t138 - (wrap64 ((ji3) * 36524)))) - (wrap64 ((wrap64 (Int.tdiv (wrap64 (t138 - (wrap64 ((ji3) * 36524)))) 1461)) * 1461)))) 365)) 3) * 365)))) - (wrap64 (Int.tdiv (wrap64 ((wrap64 (153 * (wrap64 (Int.tdiv (wrap64 ((wrap64 (5 * (wrap64 ((wrap64 ((wrap64 (t138 - (wrap64 ((ji3) * 36524)))) - (wrap64 ((wrap64 (Int.tdiv (wrap64 (t138 - (wrap64 ((ji3) * 36524)))) 1461)) * 1461)))) - (wrap64 ((mn (wrap64 (Int.tdiv (wrap64 ((wrap64 (t138 - (wrap64 ((ji3) * 36524)))) - (wrap64 ((wrap64 (Int.tdiv (wrap64 (t138 - (wrap64 ((ji3) * 36524)))) 1461)) * 1461)))) 365)) 3) * 365)))))) + 2)) 153)))) + 2)) 5)))) + 1)))) = some (r1, r2, r3) := by first | (rw [hji3] at H; exact H) | (simp only [hji3] at H ⊢; exact H)
 (try rw [hji3] at A2)
 (try (have hji3h : ji3 ≤ 3 := by (rw [← hji3]; unfold mn; (repeat' split) <;> omega)))
 (try (have hji3g : ji3 ≤ 64 := by omega))
 have hji3_ : (if 3 < (wrap64 (Int.tdiv t138 36524)) then 3 else (wrap64 (Int.tdiv t138 36524))) = ji3 := hji3
 obtain ⟨ji4, hji4⟩ : ∃ j_ : Int, (mn (wrap64 (Int.tdiv (wrap64 ((wrap64 (t138 - (wrap64 ((ji3) * 36524)))) - (wrap64 ((wrap64 (Int.tdiv (wrap64 (t138 - (wrap64 ((ji3) * 36524)))) 1461)) * 1461)))) 365)) 3) = j_ := ⟨_, rfl⟩
 replace H : (if (wrap64 (Int.tdiv (wrap64 ((wrap64 (5 * (wrap64 ((wrap64 ((wrap64 (t138 - (wrap64 ((ji3) * 36524)))) - (wrap64 ((wrap64 (Int.tdiv (wrap64 (t138 - (wrap64 ((ji3) * 36524)))) 1461)) * 1461)))) - (wrap64 ((ji4) * 365)))))) + 2)) 153)) ≥ 10 then (some (wrap64 ((wrap64 ((wrap64 ((wrap64 ((wrap64 (t137 * 400)) + (wrap64 ((ji3) * 100)))) + (wrap64 ((wrap64 (Int.tdiv (wrap64 (t138 - (wrap64 ((ji3) * 36524)))) 1461)) * 4)))) + (ji4))) + 1), wrap64 ((wrap64 (Int.tdiv (wrap64 ((wrap64 (5 * (wrap64 ((wrap64 ((wrap64 (t138 - (wrap64 ((ji3) * 36524)))) - (wrap64 ((wrap64 (Int.tdiv (wrap64 (t138 - (wrap64 ((ji3) * 36524)))) 1461)) * 1461)))) - (wrap64 ((ji4) * 365)))))) + 2)) 153)) - 9), wrap64 ((wrap64 ((wrap64 ((wrap64 ((wrap64 (t138 - (wrap64 ((ji3) * 36524)))) - (wrap64 ((wrap64 (Int.tdiv (wrap64 (t138 - (wrap64 ((ji3) * 36524)))) 1461)) * 1461)))) - (wrap64 ((ji4) * 365)))) - (wrap64 (Int.tdiv (wrap64 ((wrap64 (153 * (wrap64 (Int.tdiv (wrap64 ((wrap64 (5 * (wrap64 ((wrap64 ((wrap64 (t138 - (wrap64 ((ji3) * 36524)))) - (wrap64 ((wrap64 (Int.tdiv (wrap64 (t138 - (wrap64 ((ji3) * 36524)))) 1461)) * 1461)))) - (wrap64 ((ji4) * 365)))))) + 2)) 153)))) + 2)) 5)))) + 1))) else (some (wrap64 ((wrap64 ((wrap64 ((wrap64 (t137 * 400)) + (wrap64 ((ji3) * 100)))) + (wrap64 ((wrap64 (Int.tdiv (wrap64 (t138 - (wrap64 ((ji3) * 36524)))) 1461)) * 4)))) + (ji4)), wrap64 ((wrap64 (Int.tdiv (wrap64 ((wrap64 (5 * (wrap64 ((wrap64 ((wrap64 (t138 - (wrap64 ((ji3) * 36524)))) - (wrap64 ((wrap64 (Int.tdiv (wrap64 (t138 - (wrap64 ((ji3) * 36524)))) 1461)) * 1461)))) - (wrap64 ((ji4) * 365)))))) + 2)) 153)) + 3), wrap64 ((wrap64 ((wrap64 ((wrap64 ((wrap64 (t138 - (wrap64 ((ji3) * 36524)))) - (wrap64 ((wrap64 (Int.tdiv (wrap64 (t138 - (wrap64 ((ji3) * 36524)))) 1461)) * 1461)))) - (wrap64 ((ji4) * 365)))) - (wrap64 (Int.tdiv (wrap64 ((wrap64 (153 * (wrap64 (Int.tdiv (wrap64 ((wrap64 (5 * (wrap64 ((wrap64 ((wrap64 (t138 - (wrap64 ((ji3) * 36524)))) - (wrap64 ((wrap64 (Int.tdiv (wrap64 (t138 - (wrap64 ((ji3) * 36524)))) 1461)) * 1461)))) - (wrap64 ((ji4) * 365)))))) + 2)) 153)))) + 2)) 5)))) + 1)))) = some (r1, r2, r3) := by first | (rw [hji4] at H; exact H) | (simp only [hji4] at H ⊢; exact H)
 (try rw [hji4] at A2)
 have hji4_ : (if 3 < (wrap64 (Int.tdiv (wrap64 ((wrap64 (t138 - (wrap64 ((ji3) * 36524)))) - (wrap64 ((wrap64 (Int.tdiv (wrap64 (t138 - (wrap64 ((ji3) * 36524)))) 1461)) * 1461)))) 365)) then 3 else (wrap64 (Int.tdiv (wrap64 ((wrap64 (t138 - (wrap64 ((ji3) * 36524)))) - (wrap64 ((wrap64 (Int.tdiv (wrap64 (t138 - (wrap64 ((ji3) * 36524)))) 1461)) * 1461)))) 365))) = ji4 := hji4
 by_cases c5 : (wrap64 (Int.tdiv (wrap64 ((wrap64 (5 * (wrap64 ((wrap64 ((wrap64 (t138 - (wrap64 ((ji3) * 36524)))) - (wrap64 ((wrap64 (Int.tdiv (wrap64 (t138 - (wrap64 ((ji3) * 36524)))) 1461)) * 1461)))) - (wrap64 ((ji4) * 365)))))) + 2)) 153)) ≥ 10
 · rw [if_pos c5] at H
   have c5b0 : decide (10 ≤ (wrap64 (Int.tdiv (wrap64 ((wrap64 (5 * (wrap64 ((wrap64 ((wrap64 (t138 - (wrap64 ((ji3) * 36524)))) - (wrap64 ((wrap64 (Int.tdiv (wrap64 (t138 - (wrap64 ((ji3) * 36524)))) 1461)) * 1461)))) - (wrap64 ((ji4) * 365)))))) + 2)) 153))) = true := decide_eq_true c5
   clear c5
   simp only [Option.some.injEq, Prod.mk.injEq] at H
   obtain ⟨rfl, rfl, rfl⟩ := H
   go_enter Tryz.func158, Tryz.ntmps158
   go_wp2_with (first | ((with_reducible refine kU (f := 159) rfl ?_); refine jD (some 16) rfl rfl Tryz.func159 (by kernel_rfl) rfl #[.int .i64 (wrap64 (a0 + 730425)), .int .i64 146097] rfl (by (try simp only [List.map_toArray, List.map_cons, List.map_nil]); first | done | rfl | (simp only [List.length_drop, List.length_take]; rfl)) ?_; (with_reducible refine (bG.calls (wrap64 (a0 + 730425)) 146097 t137 t138 _ A2.out).mono ?_); rintro e w' ⟨rfl, ⟨nd, rfl⟩⟩; refine ⟨_, rfl, ?_⟩))
   go_ret3
   exact ⟨by first | rfl | (simp [errW_none, errW_some] <;> rfl) | (simp only [← hji3, ← hji4]; first | rfl | (simp [errW_none, errW_some] <;> rfl)) | (simp [*, errW_none, errW_some] <;> rfl), by repeat (first | (with_reducible first | exact HB.out | apply below_alloc | apply pw_below_drewN | apply below_drew1) | exact HB.out)⟩
 · rw [if_neg c5] at H
   have c5b0 : decide (10 ≤ (wrap64 (Int.tdiv (wrap64 ((wrap64 (5 * (wrap64 ((wrap64 ((wrap64 (t138 - (wrap64 ((ji3) * 36524)))) - (wrap64 ((wrap64 (Int.tdiv (wrap64 (t138 - (wrap64 ((ji3) * 36524)))) 1461)) * 1461)))) - (wrap64 ((ji4) * 365)))))) + 2)) 153))) = false := decide_eq_false c5
   clear c5
   simp only [Option.some.injEq, Prod.mk.injEq] at H
   obtain ⟨rfl, rfl, rfl⟩ := H
   go_enter Tryz.func158, Tryz.ntmps158
   go_wp2_with (first | ((with_reducible refine kU (f := 159) rfl ?_); refine jD (some 16) rfl rfl Tryz.func159 (by kernel_rfl) rfl #[.int .i64 (wrap64 (a0 + 730425)), .int .i64 146097] rfl (by (try simp only [List.map_toArray, List.map_cons, List.map_nil]); first | done | rfl | (simp only [List.length_drop, List.length_take]; rfl)) ?_; (with_reducible refine (bG.calls (wrap64 (a0 + 730425)) 146097 t137 t138 _ A2.out).mono ?_); rintro e w' ⟨rfl, ⟨nd, rfl⟩⟩; refine ⟨_, rfl, ?_⟩))
   go_ret3
   exact ⟨by first | rfl | (simp [errW_none, errW_some] <;> rfl) | (simp only [← hji3, ← hji4]; first | rfl | (simp [errW_none, errW_some] <;> rfl)) | (simp [*, errW_none, errW_some] <;> rfl), by repeat (first | (with_reducible first | exact HB.out | apply below_alloc | apply pw_below_drewN | apply below_drew1) | exact HB.out)⟩
noncomputable def bO.con : Con
 | [.int .i64 a0] => some ((bO.f a0).isSome, .tup [.int .i64 (gd (bO.f a0)).1, .int .i64 (gd (bO.f a0)).2.1, .int .i64 (gd (bO.f a0)).2.2])
 | _ => none
set_option maxRecDepth 100000 in
theorem bO.cok : COk Tryz.prog 158 (bO.con) := by
 intro args p v hc hp w A hA
 unfold bO.con at hc
 split at hc
 · rename_i a0
   simp only [Option.some.injEq, Prod.mk.injEq] at hc
   obtain ⟨rfl, rfl⟩ := hc
   rcases hf : bO.f a0 with _ | ⟨r1, r2, r3⟩
   · rw [hf] at hp; cases hp
   obtain rfl : A = [.int .i64 a0] := by simpa [kF, kJ, kK, kO, kW, kV, jS] using hA
   exact kH (fn := Tryz.f158) Tryz.func158 (by kernel_rfl) (by kernel_rfl) (bO.calls _ _ _ _ w hf) (fun _ => by simp [kG, kF, kJ, kK, kO, kW, kV, bI]) (fun _ h => h)
 · cases hc
def bT.f (a0 : Int) : Option (Int × Int × Int × Int) := (jP.f a0).bind fun t139 => (if t139 = true then ((bO.f a0).bind fun bt140 => (some (bt140.1, bt140.2.1, bt140.2.2, 0))) else (some (0, 0, 0, 10)))
set_option maxRecDepth 100000 in
theorem bT.vc (a0 : Int) (K : AV → Prop) : afv PA Tryz.prog (tab [(157, jP.con), (158, bO.con)]) noLoops 2 130 [.int .i64 a0] K = (brc (Option.isSome (jP.f a0)) (∀ (m0 : Bool), m0 = gd (jP.f a0) → brc (!m0) (K (AV.tup [AV.int IntKind.i64 0, AV.int IntKind.i64 0, AV.int IntKind.i64 0, AV.int IntKind.i64 10])) (brc (Option.isSome (bO.f a0)) (∀ (m1 : Int), m1 = Prod.fst (gd (bO.f a0)) → ∀ (m2 : Int), m2 = Prod.fst (Prod.snd (gd (bO.f a0))) → ∀ (m3 : Int), m3 = Prod.snd (Prod.snd (gd (bO.f a0))) → K (AV.tup [AV.int IntKind.i64 m1, AV.int IntKind.i64 m2, AV.int IntKind.i64 m3, AV.int IntKind.i64 0])) False)) False) := by kernel_rfl
set_option maxHeartbeats 1000000 in
set_option maxRecDepth 100000 in
theorem bT.calls (a0 : Int) (r1 : Int) (r2 : Int) (r3 : Int) (r4 : Int) (w : World) (h : bT.f a0 = some (r1, r2, r3, r4)) :
 Calls Tryz.prog 130 #[.int .i64 a0] w fun e w' => e = .returned (.tuple #[.int .i64 r1, .int .i64 r2, .int .i64 r3, .int .i64 r4]) ∧ Below w.heap.size w w' := by
 refine jG (A := [.int .i64 a0]) (v := .tup [.int .i64 r1, .int .i64 r2, .int .i64 r3, .int .i64 r4]) (kB (jP.cok) (kB (bO.cok) (bA))) ((bT.vc a0 _).mpr ?_) (by simp [kF, kJ, kK, kO, kW, kV, jS]) (fun ρ V' hV => by simpa [kF, kJ, kK, kO, kW, kV, bI] using hV)
 unfold bT.f at h
 (try simp only [bne, Option.bind_eq_some_iff, bQ] at h)
 (try simp only [bne, jW, wrap_i64])
 first
  | grind (splits := 60) [kG]
  | ((repeat' (first | (have or_ : Or _ _ := h; clear or_; rcases h with h | h) | (have or_ : Exists _ := h; clear or_; obtain ⟨_, h⟩ := h) | (have or_ : And _ _ := h; clear or_; obtain ⟨hq_, h⟩ := h))) <;> (try simp only [Option.some.injEq, Prod.mk.injEq, reduceCtorEq] at h) <;> (try subst_vars) <;> first | (simp_all [kG] <;> (try omega) <;> done) | grind (splits := 60) [kG])
  | (intros; subst_vars; simp_all [kG]; done)
noncomputable def bT.con : Con
 | [.int .i64 a0] => some ((bT.f a0).isSome, .tup [.int .i64 (gd (bT.f a0)).1, .int .i64 (gd (bT.f a0)).2.1, .int .i64 (gd (bT.f a0)).2.2.1, .int .i64 (gd (bT.f a0)).2.2.2])
 | _ => none
set_option maxRecDepth 100000 in
theorem bT.cok : COk Tryz.prog 130 (bT.con) := by
 intro args p v hc hp w A hA
 unfold bT.con at hc
 split at hc
 · rename_i a0
   simp only [Option.some.injEq, Prod.mk.injEq] at hc
   obtain ⟨rfl, rfl⟩ := hc
   rcases hf : bT.f a0 with _ | ⟨r1, r2, r3, r4⟩
   · rw [hf] at hp; cases hp
   obtain rfl : A = [.int .i64 a0] := by simpa [kF, kJ, kK, kO, kW, kV, jS] using hA
   exact kH (fn := Tryz.f130) Tryz.func130 (by kernel_rfl) (by kernel_rfl) (bT.calls _ _ _ _ _ w hf) (fun _ => by simp [kG, kF, kJ, kK, kO, kW, kV, bI]) (fun _ h => h)
 · cases hc
def bS.f (a0 : Int) : Option (Bool) := (bT.f a0).bind fun bt143 => (if bt143.2.2.2 = 0 then (if bt143.1 ≥ (-4712) then (some (decide (bt143.1 ≤ 294276))) else (some false)) else (some false))
set_option maxRecDepth 100000 in
theorem bS.vc (a0 : Int) (K : AV → Prop) : afv PA Tryz.prog (tab [(130, bT.con)]) noLoops 2 95 [.int .i64 a0] K = (brc (Option.isSome (bT.f a0)) (∀ (m0 : Int), m0 = Prod.fst (gd (bT.f a0)) → ∀ (m1 : Int), m1 = Prod.fst (Prod.snd (gd (bT.f a0))) → ∀ (m2 : Int), m2 = Prod.fst (Prod.snd (Prod.snd (gd (bT.f a0)))) → ∀ (m3 : Int), m3 = Prod.snd (Prod.snd (Prod.snd (gd (bT.f a0)))) → brc (m3 == 0) (brc (decide (m0 ≥ -4712)) (K (AV.bool (decide (m0 ≤ 294276)))) (K (AV.bool false))) (K (AV.bool false))) False) := by kernel_rfl
set_option maxHeartbeats 1000000 in
set_option maxRecDepth 100000 in
theorem bS.calls (a0 : Int) (r : Bool) (w : World) (h : bS.f a0 = some r) :
 Calls Tryz.prog 95 #[.int .i64 a0] w fun e w' => e = .returned (.bool r) ∧ Below w.heap.size w w' := by
 refine jG (A := [.int .i64 a0]) (v := .bool r) (kB (bT.cok) (bA)) ((bS.vc a0 _).mpr ?_) (by simp [kF, kJ, kK, kO, kW, kV, jS]) (fun ρ V' hV => by simpa [kF, kJ, kK, kO, kW, kV, bI] using hV)
 unfold bS.f at h
 (try simp only [bne, Option.bind_eq_some_iff, bQ] at h)
 (try simp only [bne, jW, wrap_i64])
 first
  | grind (splits := 60) [kG]
  | ((repeat' (first | (have or_ : Or _ _ := h; clear or_; rcases h with h | h) | (have or_ : Exists _ := h; clear or_; obtain ⟨_, h⟩ := h) | (have or_ : And _ _ := h; clear or_; obtain ⟨hq_, h⟩ := h))) <;> (try simp only [Option.some.injEq, Prod.mk.injEq, reduceCtorEq] at h) <;> (try subst_vars) <;> first | (simp_all [kG] <;> (try omega) <;> done) | grind (splits := 60) [kG])
  | (intros; subst_vars; simp_all [kG]; done)
noncomputable def bS.con : Con
 | [.int .i64 a0] => some ((bS.f a0).isSome, .bool (gd (bS.f a0)))
 | _ => none
set_option maxRecDepth 100000 in
theorem bS.cok : COk Tryz.prog 95 (bS.con) := by
 intro args p v hc hp w A hA
 unfold bS.con at hc
 split at hc
 · rename_i a0
   simp only [Option.some.injEq, Prod.mk.injEq] at hc
   obtain ⟨rfl, rfl⟩ := hc
   rcases hf : bS.f a0 with _ | r
   · rw [hf] at hp; cases hp
   obtain rfl : A = [.int .i64 a0] := by simpa [kF, kJ, kK, kO, kW, kV, jS] using hA
   exact kH (fn := Tryz.f95) Tryz.func95 (by kernel_rfl) (by kernel_rfl) (bS.calls _ _ w hf) (fun _ => by simp [kG, kF, kJ, kK, kO, kW, kV, bI]) (fun _ h => h)
 · cases hc
def kI.f (k : Nat) (a0_0 : Int) (a0_1 : Int) : Option (Bool) := (bU.f k a0_1).bind fun bt148 => (if (a0_0 == (-1) && (a0_1 == 0)) = true then (some true) else (if (a0_0 == 1 && (a0_1 == 0)) = true then (some true) else (if a0_0 = 0 then ((bS.f bt148.1).bind fun t152 => (some t152)) else (some false))))
theorem kI.mono : ∀ a0 a1 k, LeO (kI.f k a0 a1) (kI.f (k + 1) a0 a1) := by
 intro a0 a1 k
 unfold kI.f
 repeat' first
  | (with_reducible exact bU.mono _ _)
  | (with_reducible exact LeO.refl _)
  | (with_reducible exact LeO.none _)
  | (with_reducible refine LeO.ite ?_ ?_)
  | (with_reducible refine LeO.bind ?_ (fun _ => ?_))
  | exact bU.mono _ _
  | exact LeO.none _
  | refine LeO.ite ?_ ?_
  | refine LeO.bind ?_ (fun _ => ?_)
set_option maxRecDepth 100000 in
theorem kI.vc (k : Nat) (a0_0 : Int) (a0_1 : Int) (K : AV → Prop) : afv PA Tryz.prog (tab [(94, bU.con k), (95, bS.con)]) noLoops 2 51 [.agg [.int .i64 a0_0, .int .i64 a0_1]] K = (brc (Option.isSome (bU.f k a0_1)) (∀ (m0 : Int), m0 = Prod.fst (gd (bU.f k a0_1)) → ∀ (m1 : Int), m1 = Prod.snd (gd (bU.f k a0_1)) → brc (a0_0 == -1 && (a0_1 == 0 && true)) (K (AV.bool true)) (brc (a0_0 == 1 && (a0_1 == 0 && true)) (K (AV.bool true)) (brc (a0_0 == 0) (brc (Option.isSome (bS.f m0)) (∀ (m2 : Bool), m2 = gd (bS.f m0) → K (AV.bool m2)) False) (K (AV.bool false))))) False) := by kernel_rfl
set_option maxHeartbeats 1000000 in
set_option maxRecDepth 100000 in
theorem kI.calls (k : Nat) (a0_0 : Int) (a0_1 : Int) (r : Bool) (w : World) (h : kI.f k a0_0 a0_1 = some r) :
 Calls Tryz.prog 51 #[.agg #[.int .i64 a0_0, .int .i64 a0_1]] w fun e w' => e = .returned (.bool r) ∧ Below w.heap.size w w' := by
 refine jG (A := [.agg #[.int .i64 a0_0, .int .i64 a0_1]]) (v := .bool r) (kB (bU.cok k) (kB (bS.cok) (bA))) ((kI.vc k a0_0 a0_1 _).mpr ?_) (by simp [kF, kJ, kK, kO, kW, kV, jS]) (fun ρ V' hV => by simpa [kF, kJ, kK, kO, kW, kV, bI] using hV)
 unfold kI.f at h
 (try simp only [bne, Option.bind_eq_some_iff, bQ] at h)
 (try simp only [bne, jW, wrap_i64])
 first
  | grind (splits := 60) [kG]
  | ((repeat' (first | (have or_ : Or _ _ := h; clear or_; rcases h with h | h) | (have or_ : Exists _ := h; clear or_; obtain ⟨_, h⟩ := h) | (have or_ : And _ _ := h; clear or_; obtain ⟨hq_, h⟩ := h))) <;> (try simp only [Option.some.injEq, Prod.mk.injEq, reduceCtorEq] at h) <;> (try subst_vars) <;> first | (simp_all [kG] <;> (try omega) <;> done) | grind (splits := 60) [kG])
  | (intros; subst_vars; simp_all [kG]; done)
noncomputable def kI.con (k : Nat) : Con
 | [.agg [.int .i64 a0_0, .int .i64 a0_1]] => some ((kI.f k a0_0 a0_1).isSome, .bool (gd (kI.f k a0_0 a0_1)))
 | _ => none
set_option maxRecDepth 100000 in
theorem kI.cok (k : Nat) : COk Tryz.prog 51 (kI.con k) := by
 intro args p v hc hp w A hA
 unfold kI.con at hc
 split at hc
 · rename_i a0_0 a0_1
   simp only [Option.some.injEq, Prod.mk.injEq] at hc
   obtain ⟨rfl, rfl⟩ := hc
   rcases hf : kI.f k a0_0 a0_1 with _ | r
   · rw [hf] at hp; cases hp
   obtain rfl : A = [.agg #[.int .i64 a0_0, .int .i64 a0_1]] := by simpa [kF, kJ, kK, kO, kW, kV, jS] using hA
   exact kH (fn := Tryz.f51) Tryz.func51 (by kernel_rfl) (by kernel_rfl) (kI.calls _ _ _ _ w hf) (fun _ => by simp [kG, kF, kJ, kK, kO, kW, kV, bI]) (fun _ h => h)
 · cases hc
theorem kI.up {k : Nat} {a0_0 : Int} {a0_1 : Int} {r : Bool} (h : kI.f k a0_0 a0_1 = some r) : kI.f (k + 1) a0_0 a0_1 = some r := kI.mono a0_0 a0_1 k _ h
theorem kI.le {a0_0 : Int} {a0_1 : Int} {r : Bool} {k n : Nat} (h : kI.f k a0_0 a0_1 = some r) (hk : k ≤ n) : kI.f n a0_0 a0_1 = some r := by
 induction hk with
 | refl => exact h
 | step _ ih => exact kI.up ih
def jH.f (k : Nat) (a0_0 : Int) (a0_1 : Int) : Option (Int × Int × Int × Int) := (kI.f k a0_0 a0_1).bind fun t155 => (if t155 = true then (if a0_0 = 0 then ((bU.f k a0_1).bind fun bt156 => (some (0, bt156.1, bt156.2, 0))) else (some (a0_0, 0, 0, 0))) else (some (0, 0, 0, 1)))
theorem jH.mono : ∀ a0 a1 k, LeO (jH.f k a0 a1) (jH.f (k + 1) a0 a1) := by
 intro a0 a1 k
 unfold jH.f
 repeat' first
  | (with_reducible exact kI.mono _ _ _)
  | (with_reducible exact bU.mono _ _)
  | (with_reducible exact LeO.refl _)
  | (with_reducible exact LeO.none _)
  | (with_reducible refine LeO.ite ?_ ?_)
  | (with_reducible refine LeO.bind ?_ (fun _ => ?_))
  | exact kI.mono _ _ _
  | exact bU.mono _ _
  | exact LeO.none _
  | refine LeO.ite ?_ ?_
  | refine LeO.bind ?_ (fun _ => ?_)
set_option maxRecDepth 100000 in
theorem jH.vc (k : Nat) (a0_0 : Int) (a0_1 : Int) (K : AV → Prop) : afv PA Tryz.prog (tab [(51, kI.con k), (94, bU.con k)]) noLoops 2 83 [.agg [.int .i64 a0_0, .int .i64 a0_1]] K = (brc (Option.isSome (kI.f k a0_0 a0_1)) (∀ (m0 : Bool), m0 = gd (kI.f k a0_0 a0_1) → brc (!m0) (K (AV.tup [AV.agg [AV.int IntKind.i64 0, AV.int IntKind.i64 0], AV.int IntKind.i64 0, AV.int IntKind.i64 1])) (brc (a0_0 != 0) (K (AV.tup [AV.agg [AV.int IntKind.i64 a0_0, AV.int IntKind.i64 0], AV.int IntKind.i64 0, AV.int IntKind.i64 0])) (brc (Option.isSome (bU.f k a0_1)) (∀ (m1 : Int), m1 = Prod.fst (gd (bU.f k a0_1)) → ∀ (m2 : Int), m2 = Prod.snd (gd (bU.f k a0_1)) → K (AV.tup [AV.agg [AV.int IntKind.i64 0, AV.int IntKind.i64 m1], AV.int IntKind.i64 m2, AV.int IntKind.i64 0])) False))) False) := by kernel_rfl
set_option maxHeartbeats 1000000 in
set_option maxRecDepth 100000 in
theorem jH.calls (k : Nat) (a0_0 : Int) (a0_1 : Int) (r1 : Int) (r2 : Int) (r3 : Int) (r4 : Int) (w : World) (h : jH.f k a0_0 a0_1 = some (r1, r2, r3, r4)) :
 Calls Tryz.prog 83 #[.agg #[.int .i64 a0_0, .int .i64 a0_1]] w fun e w' => e = .returned (.tuple #[.agg #[.int .i64 r1, .int .i64 r2], .int .i64 r3, .int .i64 r4]) ∧ Below w.heap.size w w' := by
 refine jG (A := [.agg #[.int .i64 a0_0, .int .i64 a0_1]]) (v := .tup [.agg [.int .i64 r1, .int .i64 r2], .int .i64 r3, .int .i64 r4]) (kB (kI.cok k) (kB (bU.cok k) (bA))) ((jH.vc k a0_0 a0_1 _).mpr ?_) (by simp [kF, kJ, kK, kO, kW, kV, jS]) (fun ρ V' hV => by simpa [kF, kJ, kK, kO, kW, kV, bI] using hV)
 unfold jH.f at h
 (try simp only [bne, Option.bind_eq_some_iff, bQ] at h)
 (try simp only [bne, jW, wrap_i64])
 first
  | grind (splits := 60) [kG]
  | ((repeat' (first | (have or_ : Or _ _ := h; clear or_; rcases h with h | h) | (have or_ : Exists _ := h; clear or_; obtain ⟨_, h⟩ := h) | (have or_ : And _ _ := h; clear or_; obtain ⟨hq_, h⟩ := h))) <;> (try simp only [Option.some.injEq, Prod.mk.injEq, reduceCtorEq] at h) <;> (try subst_vars) <;> first | (simp_all [kG] <;> (try omega) <;> done) | grind (splits := 60) [kG])
  | (intros; subst_vars; simp_all [kG]; done)
noncomputable def jH.con (k : Nat) : Con
 | [.agg [.int .i64 a0_0, .int .i64 a0_1]] => some ((jH.f k a0_0 a0_1).isSome, .tup [.agg [.int .i64 (gd (jH.f k a0_0 a0_1)).1, .int .i64 (gd (jH.f k a0_0 a0_1)).2.1], .int .i64 (gd (jH.f k a0_0 a0_1)).2.2.1, .int .i64 (gd (jH.f k a0_0 a0_1)).2.2.2])
 | _ => none
set_option maxRecDepth 100000 in
theorem jH.cok (k : Nat) : COk Tryz.prog 83 (jH.con k) := by
 intro args p v hc hp w A hA
 unfold jH.con at hc
 split at hc
 · rename_i a0_0 a0_1
   simp only [Option.some.injEq, Prod.mk.injEq] at hc
   obtain ⟨rfl, rfl⟩ := hc
   rcases hf : jH.f k a0_0 a0_1 with _ | ⟨r1, r2, r3, r4⟩
   · rw [hf] at hp; cases hp
   obtain rfl : A = [.agg #[.int .i64 a0_0, .int .i64 a0_1]] := by simpa [kF, kJ, kK, kO, kW, kV, jS] using hA
   exact kH (fn := Tryz.f83) Tryz.func83 (by kernel_rfl) (by kernel_rfl) (jH.calls _ _ _ _ _ _ _ w hf) (fun _ => by simp [kG, kF, kJ, kK, kO, kW, kV, bI]) (fun _ h => h)
 · cases hc
theorem jH.up {k : Nat} {a0_0 : Int} {a0_1 : Int} {r : Int × Int × Int × Int} (h : jH.f k a0_0 a0_1 = some r) : jH.f (k + 1) a0_0 a0_1 = some r := jH.mono a0_0 a0_1 k _ h
theorem jH.le {a0_0 : Int} {a0_1 : Int} {r : Int × Int × Int × Int} {k n : Nat} (h : jH.f k a0_0 a0_1 = some r) (hk : k ≤ n) : jH.f n a0_0 a0_1 = some r := by
 induction hk with
 | refl => exact h
 | step _ ih => exact jH.up ih
end Go.Proofs.YtimgphlfaninnaaGreat.P
namespace Go.Proofs.YtimgphlfaninnaaGreat.P
open Go.RowKit Go.Proofs.YtimgphlfaninnaaGreatW.PrintWords Go.Proofs.YtimgphlfaninnaaGreatW.PrintLast Go.Proofs.YtimgphlfaninnaaGreatW.PrintMore
 attribute [local go_sem] bF bD bL bM kY kZ bC bE
set_option linter.unusedVariables false
set_option linter.unusedSimpArgs false
theorem eqA103 (d : Nat) (w : World) (x0 y0 : Int) (x1 y1 : Int) :
 (Op.equalIn (d + 2) 103 (.agg #[.int .i64 x0, .int .i64 x1]) (.agg #[.int .i64 y0, .int .i64 y1])).run Tryz.prog w = .ok (x0 == y0 && (x1 == y1)) w := by
 refine eqA_of Tryz.underlying103 (by kernel_rfl) ?_
 refine eqf_cons (by rfl) (by go_simp; rfl) (by go_simp; rfl) (by go_simp) ?_
 exact eqf_last (by rfl) (by go_simp; rfl) (by go_simp; rfl) (by go_simp)
end Go.Proofs.YtimgphlfaninnaaGreat.P
namespace Go.Proofs.YtimgphlfaninnaaGreat.P
open Go.RowKit Go.Proofs.YtimgphlfaninnaaGreatW.PrintWords Go.Proofs.YtimgphlfaninnaaGreatW.PrintLast Go.Proofs.YtimgphlfaninnaaGreatW.PrintMore
open Go.Proofs.YtimgphlfaninnaaGreat.A
 attribute [local go_sem] bF bD bL bM kY kZ bC bE
set_option linter.unusedVariables false
set_option linter.unusedSimpArgs false
attribute [local go_sem high] eqA103
def bX.f (a0_0 : Int) (a0_1 : Int) : Option (Bool) := if (a0_0 == (-1) && (a0_1 == 0)) = true then (some true) else (if (a0_0 == 1 && (a0_1 == 0)) = true then (some true) else (if a0_0 = 0 then ((bS.f a0_1).bind fun t161 => (some t161)) else (some false)))
set_option maxRecDepth 100000 in
theorem bX.vc (a0_0 : Int) (a0_1 : Int) (K : AV → Prop) : afv PA Tryz.prog (tab [(95, bS.con)]) noLoops 2 124 [.agg [.int .i64 a0_0, .int .i64 a0_1]] K = (brc (a0_0 == -1 && (a0_1 == 0 && true)) (K (AV.bool true)) (brc (a0_0 == 1 && (a0_1 == 0 && true)) (K (AV.bool true)) (brc (a0_0 == 0) (brc (Option.isSome (bS.f a0_1)) (∀ (m0 : Bool), m0 = gd (bS.f a0_1) → K (AV.bool m0)) False) (K (AV.bool false))))) := by kernel_rfl
set_option maxHeartbeats 1000000 in
set_option maxRecDepth 100000 in
theorem bX.calls (a0_0 : Int) (a0_1 : Int) (r : Bool) (w : World) (h : bX.f a0_0 a0_1 = some r) :
 Calls Tryz.prog 124 #[.agg #[.int .i64 a0_0, .int .i64 a0_1]] w fun e w' => e = .returned (.bool r) ∧ Below w.heap.size w w' := by
 refine jG (A := [.agg #[.int .i64 a0_0, .int .i64 a0_1]]) (v := .bool r) (kB (bS.cok) (bA)) ((bX.vc a0_0 a0_1 _).mpr ?_) (by simp [kF, kJ, kK, kO, kW, kV, jS]) (fun ρ V' hV => by simpa [kF, kJ, kK, kO, kW, kV, bI] using hV)
 unfold bX.f at h
 (try simp only [bne, Option.bind_eq_some_iff, bQ] at h)
 (try simp only [bne, jW, wrap_i64])
 first
  | grind (splits := 60) [kG]
  | ((repeat' (first | (have or_ : Or _ _ := h; clear or_; rcases h with h | h) | (have or_ : Exists _ := h; clear or_; obtain ⟨_, h⟩ := h) | (have or_ : And _ _ := h; clear or_; obtain ⟨hq_, h⟩ := h))) <;> (try simp only [Option.some.injEq, Prod.mk.injEq, reduceCtorEq] at h) <;> (try subst_vars) <;> first | (simp_all [kG] <;> (try omega) <;> done) | grind (splits := 60) [kG])
  | (intros; subst_vars; simp_all [kG]; done)
noncomputable def bX.con : Con
 | [.agg [.int .i64 a0_0, .int .i64 a0_1]] => some ((bX.f a0_0 a0_1).isSome, .bool (gd (bX.f a0_0 a0_1)))
 | _ => none
set_option maxRecDepth 100000 in
theorem bX.cok : COk Tryz.prog 124 (bX.con) := by
 intro args p v hc hp w A hA
 unfold bX.con at hc
 split at hc
 · rename_i a0_0 a0_1
   simp only [Option.some.injEq, Prod.mk.injEq] at hc
   obtain ⟨rfl, rfl⟩ := hc
   rcases hf : bX.f a0_0 a0_1 with _ | r
   · rw [hf] at hp; cases hp
   obtain rfl : A = [.agg #[.int .i64 a0_0, .int .i64 a0_1]] := by simpa [kF, kJ, kK, kO, kW, kV, jS] using hA
   exact kH (fn := Tryz.f124) Tryz.func124 (by kernel_rfl) (by kernel_rfl) (bX.calls _ _ _ w hf) (fun _ => by simp [kG, kF, kJ, kK, kO, kW, kV, bI]) (fun _ h => h)
 · cases hc
def bR.f (a0 : Int) (a1 : Int) : Option (Int × Int × Int) := if a1 = 0 then ((bS.f a0).bind fun t163 => (if t163 = true then (some (0, a0, 0)) else (some (0, 0, 10)))) else (some (0, 0, 10))
set_option maxRecDepth 100000 in
theorem bR.vc (a0 : Int) (a1 : Int) (K : AV → Prop) : afv PA Tryz.prog (tab [(95, bS.con)]) noLoops 2 156 [.int .i64 a0, .int .i64 a1] K = (brc (a1 != 0) (K (AV.tup [AV.agg [AV.int IntKind.i64 0, AV.int IntKind.i64 0], AV.int IntKind.i64 10])) (brc (Option.isSome (bS.f a0)) (∀ (m0 : Bool), m0 = gd (bS.f a0) → brc (!m0) (K (AV.tup [AV.agg [AV.int IntKind.i64 0, AV.int IntKind.i64 0], AV.int IntKind.i64 10])) (K (AV.tup [AV.agg [AV.int IntKind.i64 0, AV.int IntKind.i64 a0], AV.int IntKind.i64 0]))) False)) := by kernel_rfl
set_option maxHeartbeats 1000000 in
set_option maxRecDepth 100000 in
theorem bR.calls (a0 : Int) (a1 : Int) (r1 : Int) (r2 : Int) (r3 : Int) (w : World) (h : bR.f a0 a1 = some (r1, r2, r3)) :
 Calls Tryz.prog 156 #[.int .i64 a0, .int .i64 a1] w fun e w' => e = .returned (.tuple #[.agg #[.int .i64 r1, .int .i64 r2], .int .i64 r3]) ∧ Below w.heap.size w w' := by
 refine jG (A := [.int .i64 a0, .int .i64 a1]) (v := .tup [.agg [.int .i64 r1, .int .i64 r2], .int .i64 r3]) (kB (bS.cok) (bA)) ((bR.vc a0 a1 _).mpr ?_) (by simp [kF, kJ, kK, kO, kW, kV, jS]) (fun ρ V' hV => by simpa [kF, kJ, kK, kO, kW, kV, bI] using hV)
 unfold bR.f at h
 (try simp only [bne, Option.bind_eq_some_iff, bQ] at h)
 (try simp only [bne, jW, wrap_i64])
 first
  | grind (splits := 60) [kG]
  | ((repeat' (first | (have or_ : Or _ _ := h; clear or_; rcases h with h | h) | (have or_ : Exists _ := h; clear or_; obtain ⟨_, h⟩ := h) | (have or_ : And _ _ := h; clear or_; obtain ⟨hq_, h⟩ := h))) <;> (try simp only [Option.some.injEq, Prod.mk.injEq, reduceCtorEq] at h) <;> (try subst_vars) <;> first | (simp_all [kG] <;> (try omega) <;> done) | grind (splits := 60) [kG])
  | (intros; subst_vars; simp_all [kG]; done)
noncomputable def bR.con : Con
 | [.int .i64 a0, .int .i64 a1] => some ((bR.f a0 a1).isSome, .tup [.agg [.int .i64 (gd (bR.f a0 a1)).1, .int .i64 (gd (bR.f a0 a1)).2.1], .int .i64 (gd (bR.f a0 a1)).2.2])
 | _ => none
set_option maxRecDepth 100000 in
theorem bR.cok : COk Tryz.prog 156 (bR.con) := by
 intro args p v hc hp w A hA
 unfold bR.con at hc
 split at hc
 · rename_i a0 a1
   simp only [Option.some.injEq, Prod.mk.injEq] at hc
   obtain ⟨rfl, rfl⟩ := hc
   rcases hf : bR.f a0 a1 with _ | ⟨r1, r2, r3⟩
   · rw [hf] at hp; cases hp
   obtain rfl : A = [.int .i64 a0, .int .i64 a1] := by simpa [kF, kJ, kK, kO, kW, kV, jS] using hA
   exact kH (fn := Tryz.f156) Tryz.func156 (by kernel_rfl) (by kernel_rfl) (bR.calls _ _ _ _ _ w hf) (fun _ => by simp [kG, kF, kJ, kK, kO, kW, kV, bI]) (fun _ h => h)
 · cases hc
def civil_Leap.f (a0 : Int) : Option (Bool) := if (Int.tmod a0 4) = 0 then (if (Int.tmod a0 100) = 0 then (some ((Int.tmod a0 400) == 0)) else (some true)) else (some false)
set_option maxHeartbeats 8000000 in
set_option maxRecDepth 100000 in
theorem civil_Leap.calls (a0 : Int) (r : Bool) (w : World) (h : civil_Leap.f a0 = some r) :
 Calls Tryz.prog 173 #[.int .i64 a0] w fun e w' => e = .returned (.bool r) ∧ Drawn0 w w' := by
 have H : (if (Int.tmod a0 4) = 0 then (if (Int.tmod a0 100) = 0 then (some ((Int.tmod a0 400) == 0)) else (some true)) else (some false)) = some r := h
 clear h
 by_cases c2 : (Int.tmod a0 4) = 0
 · rw [if_pos c2] at H
   have c2b0 : ((Int.tmod a0 4) == 0) = true := beq_iff_eq.mpr c2
   have c2b1 : ((Int.tmod a0 4) != 0) = false := bne_eq_false_iff_eq.mpr c2
   clear c2
   by_cases c3 : (Int.tmod a0 100) = 0
   · rw [if_pos c3] at H
     have c3b0 : ((Int.tmod a0 100) == 0) = true := beq_iff_eq.mpr c3
     have c3b1 : ((Int.tmod a0 100) != 0) = false := bne_eq_false_iff_eq.mpr c3
     clear c3
     obtain rfl := Option.some.inj H
     go_enter Tryz.func173, Tryz.ntmps173
     go_wp2
     go_ret
     exact ⟨by first | rfl | (simp; done) | (simp [*]; done), by repeat (first | exact Drawn0.refl _ | apply Drawn0.step)⟩
   · rw [if_neg c3] at H
     have c3b0 : ((Int.tmod a0 100) == 0) = false := beq_eq_false_iff_ne.mpr c3
     have c3b1 : ((Int.tmod a0 100) != 0) = true := bne_iff_ne.mpr c3
     obtain rfl := Option.some.inj H
     go_enter Tryz.func173, Tryz.ntmps173
     go_wp2
     go_ret
     exact ⟨by first | rfl | (simp; done) | (simp [*]; done), by repeat (first | exact Drawn0.refl _ | apply Drawn0.step)⟩
 · rw [if_neg c2] at H
   have c2b0 : ((Int.tmod a0 4) == 0) = false := beq_eq_false_iff_ne.mpr c2
   have c2b1 : ((Int.tmod a0 4) != 0) = true := bne_iff_ne.mpr c2
   obtain rfl := Option.some.inj H
   go_enter Tryz.func173, Tryz.ntmps173
   go_wp2
   go_ret
   exact ⟨by first | rfl | (simp; done) | (simp [*]; done), by repeat (first | exact Drawn0.refl _ | apply Drawn0.step)⟩
def jC.t (a1 : Int) : Int := if a1 = 2 then 28 else if a1 = 4 then 30 else if a1 = 6 then 30 else if a1 = 9 then 30 else if a1 = 11 then 30 else 31
def jC.f (a0 : Int) (a1 : Int) : Option (Int) := if a1 < 1 then (some 0) else (if a1 > 12 then (some 0) else (if a1 = 2 then ((civil_Leap.f a0).bind fun t103 => (if t103 = true then (some 29) else (some 28))) else (some (jC.t a1))))
set_option maxHeartbeats 8000000 in
set_option maxRecDepth 100000 in
theorem jC.calls (a0 : Int) (a1 : Int) (r : Int) (w : World) (h : jC.f a0 a1 = some r) :
 Calls Tryz.prog 161 #[.int .i64 a0, .int .i64 a1] w fun e w' => e = .returned (.int .i64 r) ∧ Below w.heap.size w w' := by
 have H := h
 unfold jC.f at H
 clear h
 by_cases c2 : a1 < 1
 · rw [if_pos c2] at H
   have c2b0 : decide (a1 < 1) = true := decide_eq_true c2
   obtain rfl := Option.some.inj H
   clear c2
   go_enter Tryz.func161, Tryz.ntmps161
   go_wp2
   go_ret
   exact ⟨rfl, by repeat (first | exact Below.refl _ _ | exact (Below.refl _ _).alloc (Nat.le_refl _) _ | (apply Below.setCell _ (by simp)))⟩
 · rw [if_neg c2] at H
   have c2b0 : decide (a1 < 1) = false := decide_eq_false c2
   clear c2
   by_cases c3 : a1 > 12
   · rw [if_pos c3] at H
     have c3b0 : decide (12 < a1) = true := decide_eq_true c3
     obtain rfl := Option.some.inj H
     clear c3
     go_enter Tryz.func161, Tryz.ntmps161
     go_wp2
     go_ret
     exact ⟨rfl, by repeat (first | exact Below.refl _ _ | exact (Below.refl _ _).alloc (Nat.le_refl _) _ | (apply Below.setCell _ (by simp)))⟩
   · rw [if_neg c3] at H
     have c3b0 : decide (12 < a1) = false := decide_eq_false c3
     have hlo : 1 ≤ a1 := by have := of_decide_eq_false c2b0; omega
     have hhi : a1 ≤ 12 := by omega
     clear c3
     by_cases c4 : a1 = 2
     · rw [if_pos c4] at H
       subst c4
       clear c2b0 c3b0 hlo hhi
       replace H := Option.bind_eq_some_iff.mp H
       obtain ⟨t103, A40, H⟩ := H
       have A4 := Aside0.mk A40
       clear A40
       cases t103 with
       | true =>
        obtain rfl := Option.some.inj H
        clear H
        go_enter Tryz.func161, Tryz.ntmps161
        go_wp2_with (go_at_call 173; (with_reducible refine (civil_Leap.calls a0 true _ A4.out).mono ?_); rintro e w' ⟨rfl, ⟨nd, rfl⟩⟩)
        go_ret
        exact ⟨rfl, by repeat (first | exact Below.refl _ _ | exact (Below.refl _ _).alloc (Nat.le_refl _) _ | (apply pw_below_drewN) | (apply below_drew) | (apply Below.setCell _ (by simp)))⟩
       | false =>
        obtain rfl := Option.some.inj H
        clear H
        go_enter Tryz.func161, Tryz.ntmps161
        go_wp2_with (go_at_call 173; (with_reducible refine (civil_Leap.calls a0 false _ A4.out).mono ?_); rintro e w' ⟨rfl, ⟨nd, rfl⟩⟩)
        go_ret
        exact ⟨rfl, by repeat (first | exact Below.refl _ _ | exact (Below.refl _ _).alloc (Nat.le_refl _) _ | (apply pw_below_drewN) | (apply below_drew) | (apply Below.setCell _ (by simp)))⟩
     · rw [if_neg c4] at H
       obtain rfl := Option.some.inj H
       clear H c2b0 c3b0
       rcases (by omega : a1 = 1 ∨ a1 = 3 ∨ a1 = 4 ∨ a1 = 5 ∨ a1 = 6 ∨ a1 = 7 ∨ a1 = 8 ∨ a1 = 9 ∨ a1 = 10 ∨ a1 = 11 ∨ a1 = 12) with e | e | e | e | e | e | e | e | e | e | e <;> subst e <;> clear hlo hhi c4
       all_goals
        go_enter Tryz.func161, Tryz.ntmps161
        go_wp2
        go_ret
        exact ⟨rfl, by repeat (first | exact Below.refl _ _ | exact (Below.refl _ _).alloc (Nat.le_refl _) _ | (apply pw_below_drewN) | (apply below_drew) | (apply Below.setCell _ (by simp)))⟩
noncomputable def jC.con : Con
 | [.int .i64 a0, .int .i64 a1] => some ((jC.f a0 a1).isSome, .int .i64 (gd (jC.f a0 a1)))
 | _ => none
set_option maxRecDepth 100000 in
theorem jC.cok : COk Tryz.prog 161 (jC.con) := by
 intro args p v hc hp w A hA
 unfold jC.con at hc
 split at hc
 · rename_i a0 a1
   simp only [Option.some.injEq, Prod.mk.injEq] at hc
   obtain ⟨rfl, rfl⟩ := hc
   rcases hf : jC.f a0 a1 with _ | r
   · rw [hf] at hp; cases hp
   obtain rfl : A = [.int .i64 a0, .int .i64 a1] := by simpa [kF, kJ, kK, kO, kW, kV, jS] using hA
   exact kH (fn := Tryz.f161) Tryz.func161 (by kernel_rfl) (by kernel_rfl) (jC.calls _ _ _ w hf) (fun _ => by simp [kG, kF, kJ, kK, kO, kW, kV, bI]) (fun _ h => h)
 · cases hc
def jE.f (a0 : Int) (a1 : Int) (a2 : Int) : Option (Bool) := if a0 ≥ (-4718) then (if a0 ≤ 294282 then (if a2 ≥ 1 then ((jC.f a0 a1).bind fun t164 => (some (decide (a2 ≤ t164)))) else (some false)) else (some false)) else (some false)
set_option maxRecDepth 100000 in
theorem jE.vc (a0 : Int) (a1 : Int) (a2 : Int) (K : AV → Prop) : afv PA Tryz.prog (tab [(161, jC.con)]) noLoops 2 172 [.int .i64 a0, .int .i64 a1, .int .i64 a2] K = (brc (decide (a0 ≥ -4718)) (brc (decide (a0 ≤ 294282)) (brc (decide (a2 ≥ 1)) (brc (Option.isSome (jC.f a0 a1)) (∀ (m0 : Int), m0 = gd (jC.f a0 a1) → K (AV.bool (decide (a2 ≤ m0)))) False) (K (AV.bool false))) (K (AV.bool false))) (K (AV.bool false))) := by kernel_rfl
set_option maxHeartbeats 1000000 in
set_option maxRecDepth 100000 in
theorem jE.calls (a0 : Int) (a1 : Int) (a2 : Int) (r : Bool) (w : World) (h : jE.f a0 a1 a2 = some r) :
 Calls Tryz.prog 172 #[.int .i64 a0, .int .i64 a1, .int .i64 a2] w fun e w' => e = .returned (.bool r) ∧ Below w.heap.size w w' := by
 refine jG (A := [.int .i64 a0, .int .i64 a1, .int .i64 a2]) (v := .bool r) (kB (jC.cok) (bA)) ((jE.vc a0 a1 a2 _).mpr ?_) (by simp [kF, kJ, kK, kO, kW, kV, jS]) (fun ρ V' hV => by simpa [kF, kJ, kK, kO, kW, kV, bI] using hV)
 unfold jE.f at h
 (try simp only [bne, Option.bind_eq_some_iff, bQ] at h)
 (try simp only [bne, jW, wrap_i64])
 first
  | grind (splits := 60) [kG]
  | ((repeat' (first | (have or_ : Or _ _ := h; clear or_; rcases h with h | h) | (have or_ : Exists _ := h; clear or_; obtain ⟨_, h⟩ := h) | (have or_ : And _ _ := h; clear or_; obtain ⟨hq_, h⟩ := h))) <;> (try simp only [Option.some.injEq, Prod.mk.injEq, reduceCtorEq] at h) <;> (try subst_vars) <;> first | (simp_all [kG] <;> (try omega) <;> done) | grind (splits := 60) [kG])
  | (intros; subst_vars; simp_all [kG]; done)
noncomputable def jE.con : Con
 | [.int .i64 a0, .int .i64 a1, .int .i64 a2] => some ((jE.f a0 a1 a2).isSome, .bool (gd (jE.f a0 a1 a2)))
 | _ => none
set_option maxRecDepth 100000 in
theorem jE.cok : COk Tryz.prog 172 (jE.con) := by
 intro args p v hc hp w A hA
 unfold jE.con at hc
 split at hc
 · rename_i a0 a1 a2
   simp only [Option.some.injEq, Prod.mk.injEq] at hc
   obtain ⟨rfl, rfl⟩ := hc
   rcases hf : jE.f a0 a1 a2 with _ | r
   · rw [hf] at hp; cases hp
   obtain rfl : A = [.int .i64 a0, .int .i64 a1, .int .i64 a2] := by simpa [kF, kJ, kK, kO, kW, kV, jS] using hA
   exact kH (fn := Tryz.f172) Tryz.func172 (by kernel_rfl) (by kernel_rfl) (jE.calls _ _ _ _ w hf) (fun _ => by simp [kG, kF, kJ, kK, kO, kW, kV, bI]) (fun _ h => h)
 · cases hc
end Go.Proofs.YtimgphlfaninnaaGreat.P
namespace Go.Proofs.YtimgphlfaninnaaGreat.P
open Go.RowKit Go.Proofs.YtimgphlfaninnaaGreatW.PrintWords Go.Proofs.YtimgphlfaninnaaGreatW.PrintLast Go.Proofs.YtimgphlfaninnaaGreatW.PrintMore
open Go.Proofs.YtimgphlfaninnaaGreat.A
 attribute [local go_sem] bF bD bL bM kY kZ bC bE
set_option linter.unusedVariables false
set_option linter.unusedSimpArgs false
def jB.f (a0 : Int) (a1 : Int) (a2 : Int) : Option (Int × Int) := (jE.f a0 a1 a2).bind fun t165 => (if t165 = true then ((jM.f a0 a1 a2).bind fun t166 => (some (t166, 0))) else (some (0, 10)))
set_option maxRecDepth 100000 in
theorem jB.vc (a0 : Int) (a1 : Int) (a2 : Int) (K : AV → Prop) : afv PA Tryz.prog (tab [(162, jM.con), (172, jE.con)]) noLoops 2 160 [.int .i64 a0, .int .i64 a1, .int .i64 a2] K = (brc (Option.isSome (jE.f a0 a1 a2)) (∀ (m0 : Bool), m0 = gd (jE.f a0 a1 a2) → brc (!m0) (K (AV.tup [AV.int IntKind.i64 0, AV.int IntKind.i64 10])) (brc (Option.isSome (jM.f a0 a1 a2)) (∀ (m1 : Int), m1 = gd (jM.f a0 a1 a2) → K (AV.tup [AV.int IntKind.i64 m1, AV.int IntKind.i64 0])) False)) False) := by kernel_rfl
set_option maxHeartbeats 1000000 in
set_option maxRecDepth 100000 in
theorem jB.calls (a0 : Int) (a1 : Int) (a2 : Int) (r1 : Int) (r2 : Int) (w : World) (h : jB.f a0 a1 a2 = some (r1, r2)) :
 Calls Tryz.prog 160 #[.int .i64 a0, .int .i64 a1, .int .i64 a2] w fun e w' => e = .returned (.tuple #[.int .i64 r1, .int .i64 r2]) ∧ Below w.heap.size w w' := by
 refine jG (A := [.int .i64 a0, .int .i64 a1, .int .i64 a2]) (v := .tup [.int .i64 r1, .int .i64 r2]) (kB (jM.cok) (kB (jE.cok) (bA))) ((jB.vc a0 a1 a2 _).mpr ?_) (by simp [kF, kJ, kK, kO, kW, kV, jS]) (fun ρ V' hV => by simpa [kF, kJ, kK, kO, kW, kV, bI] using hV)
 unfold jB.f at h
 (try simp only [bne, Option.bind_eq_some_iff, bQ] at h)
 (try simp only [bne, jW, wrap_i64])
 first
  | grind (splits := 60) [kG]
  | ((repeat' (first | (have or_ : Or _ _ := h; clear or_; rcases h with h | h) | (have or_ : Exists _ := h; clear or_; obtain ⟨_, h⟩ := h) | (have or_ : And _ _ := h; clear or_; obtain ⟨hq_, h⟩ := h))) <;> (try simp only [Option.some.injEq, Prod.mk.injEq, reduceCtorEq] at h) <;> (try subst_vars) <;> first | (simp_all [kG] <;> (try omega) <;> done) | grind (splits := 60) [kG])
  | (intros; subst_vars; simp_all [kG]; done)
noncomputable def jB.con : Con
 | [.int .i64 a0, .int .i64 a1, .int .i64 a2] => some ((jB.f a0 a1 a2).isSome, .tup [.int .i64 (gd (jB.f a0 a1 a2)).1, .int .i64 (gd (jB.f a0 a1 a2)).2])
 | _ => none
set_option maxRecDepth 100000 in
theorem jB.cok : COk Tryz.prog 160 (jB.con) := by
 intro args p v hc hp w A hA
 unfold jB.con at hc
 split at hc
 · rename_i a0 a1 a2
   simp only [Option.some.injEq, Prod.mk.injEq] at hc
   obtain ⟨rfl, rfl⟩ := hc
   rcases hf : jB.f a0 a1 a2 with _ | ⟨r1, r2⟩
   · rw [hf] at hp; cases hp
   obtain rfl : A = [.int .i64 a0, .int .i64 a1, .int .i64 a2] := by simpa [kF, kJ, kK, kO, kW, kV, jS] using hA
   exact kH (fn := Tryz.f160) Tryz.func160 (by kernel_rfl) (by kernel_rfl) (jB.calls _ _ _ _ _ w hf) (fun _ => by simp [kG, kF, kJ, kK, kO, kW, kV, bI]) (fun _ h => h)
 · cases hc
def kQ.j0 : Nat → Int → Int → Bool → Option (Int × Int)
 | 0, _, _, _ => none
 | k + 1, x0, x1, x19 => if x19 = true then (some (0, 10)) else ((bO.f x0).bind fun bt168 => ((bG.f (wrap64 ((wrap64 ((wrap64 ((wrap64 (12 * bt168.1)) + bt168.2.1)) - 1)) + x1)) 12).bind fun bt171 => ((jC.f bt171.1 (wrap64 (bt171.2 + 1))).bind fun t173 => ((jB.f bt171.1 (wrap64 (bt171.2 + 1)) (mn bt168.2.2 t173)).bind fun bt174 => (some (bt174.1, bt174.2))))))
def kQ.f (k : Nat) (a0 : Int) (a1 : Int) : Option (Int × Int) := (jP.f a0).bind fun t167 => (if t167 = true then (if a1 > 3600000 then (kQ.j0 k a0 a1 true) else (kQ.j0 k a0 a1 (decide (a1 < (-3600000))))) else (kQ.j0 k a0 a1 true))
theorem kQ.mono_l : ∀ k, (∀ y0 y1 y2, LeO (kQ.j0 k y0 y1 y2) (kQ.j0 (k + 1) y0 y1 y2))
 | 0 => fun _ _ _ r h => by simp [kQ.j0] at h
 | k + 1 => by
  have ih0 := kQ.mono_l k
  · intro y0 y1 y2
    unfold kQ.j0
    repeat' first
    | (with_reducible exact ih0 _ _ _)
    | (with_reducible exact LeO.refl _)
    | (with_reducible exact LeO.none _)
    | (with_reducible refine LeO.ite ?_ ?_)
    | (with_reducible refine LeO.bind ?_ (fun _ => ?_))
    | exact ih0 _ _ _
    | exact LeO.none _
    | refine LeO.ite ?_ ?_
    | refine LeO.bind ?_ (fun _ => ?_)
theorem kQ.mono : ∀ a0 a1 k, LeO (kQ.f k a0 a1) (kQ.f (k + 1) a0 a1) := by
 intro a0 a1 k
 have ih0 := kQ.mono_l k
 unfold kQ.f
 repeat' first
  | (with_reducible exact ih0 _ _ _)
  | (with_reducible exact LeO.refl _)
  | (with_reducible exact LeO.none _)
  | (with_reducible refine LeO.ite ?_ ?_)
  | (with_reducible refine LeO.bind ?_ (fun _ => ?_))
  | exact ih0 _ _ _
  | exact LeO.none _
  | refine LeO.ite ?_ ?_
  | refine LeO.bind ?_ (fun _ => ?_)
set_option maxRecDepth 100000 in
theorem kQ.vc (k : Nat) (a0 : Int) (a1 : Int) (K : AV → Prop) : afv PA Tryz.prog (tab [(157, jP.con), (158, bO.con), (159, bG.con), (160, jB.con), (161, jC.con)]) noLoops 2 123 [.int .i64 a0, .int .i64 a1] K = (brc (Option.isSome (jP.f a0)) (∀ (m0 : Bool), m0 = gd (jP.f a0) → brc (!m0) (K (AV.tup [AV.int IntKind.i64 0, AV.int IntKind.i64 10])) (brc (decide (a1 > 3600000)) (K (AV.tup [AV.int IntKind.i64 0, AV.int IntKind.i64 10])) (brc (decide (a1 < -3600000)) (K (AV.tup [AV.int IntKind.i64 0, AV.int IntKind.i64 10])) (brc (Option.isSome (bO.f a0)) (∀ (m1 : Int), m1 = Prod.fst (gd (bO.f a0)) → ∀ (m2 : Int), m2 = Prod.fst (Prod.snd (gd (bO.f a0))) → ∀ (m3 : Int), m3 = Prod.snd (Prod.snd (gd (bO.f a0))) → brc (Option.isSome (bG.f (IntKind.wrap IntKind.i64 (IntKind.wrap IntKind.i64 (IntKind.wrap IntKind.i64 (IntKind.wrap IntKind.i64 (12 * m1) + m2) - 1) + a1)) 12)) (∀ (m4 : Int), m4 = Prod.fst (gd (bG.f (IntKind.wrap IntKind.i64 (IntKind.wrap IntKind.i64 (IntKind.wrap IntKind.i64 (IntKind.wrap IntKind.i64 (12 * m1) + m2) - 1) + a1)) 12)) → ∀ (m5 : Int), m5 = Prod.snd (gd (bG.f (IntKind.wrap IntKind.i64 (IntKind.wrap IntKind.i64 (IntKind.wrap IntKind.i64 (IntKind.wrap IntKind.i64 (12 * m1) + m2) - 1) + a1)) 12)) → brc (Option.isSome (jC.f m4 (IntKind.wrap IntKind.i64 (m5 + 1)))) (∀ (m6 : Int), m6 = gd (jC.f m4 (IntKind.wrap IntKind.i64 (m5 + 1))) → brc (Option.isSome (jB.f m4 (IntKind.wrap IntKind.i64 (m5 + 1)) (if m6 < m3 then m6 else m3))) (∀ (m7 : Int), m7 = Prod.fst (gd (jB.f m4 (IntKind.wrap IntKind.i64 (m5 + 1)) (if m6 < m3 then m6 else m3))) → ∀ (m8 : Int), m8 = Prod.snd (gd (jB.f m4 (IntKind.wrap IntKind.i64 (m5 + 1)) (if m6 < m3 then m6 else m3))) → K (AV.tup [AV.int IntKind.i64 m7, AV.int IntKind.i64 m8])) False) False) False) False)))) False) := by kernel_rfl
set_option maxHeartbeats 1000000 in
set_option maxRecDepth 100000 in
theorem kQ.calls (k : Nat) (a0 : Int) (a1 : Int) (r1 : Int) (r2 : Int) (w : World) (h : kQ.f k a0 a1 = some (r1, r2)) :
 Calls Tryz.prog 123 #[.int .i64 a0, .int .i64 a1] w fun e w' => e = .returned (.tuple #[.int .i64 r1, .int .i64 r2]) ∧ Below w.heap.size w w' := by
 refine jG (A := [.int .i64 a0, .int .i64 a1]) (v := .tup [.int .i64 r1, .int .i64 r2]) (kB (jP.cok) (kB (bO.cok) (kB (bG.cok) (kB (jB.cok) (kB (jC.cok) (bA)))))) ((kQ.vc k a0 a1 _).mpr ?_) (by simp [kF, kJ, kK, kO, kW, kV, jS]) (fun ρ V' hV => by simpa [kF, kJ, kK, kO, kW, kV, bI] using hV)
 unfold kQ.f at h
 cases k with
 | zero =>
  (try simp only [kQ.j0] at h)
  (try simp only [bne, Option.bind_eq_some_iff, bQ] at h)
  (try simp only [bne, jW, wrap_i64])
  first
   | grind (splits := 60) [kG, mn]
   | ((repeat' (first | (have or_ : Or _ _ := h; clear or_; rcases h with h | h) | (have or_ : Exists _ := h; clear or_; obtain ⟨_, h⟩ := h) | (have or_ : And _ _ := h; clear or_; obtain ⟨hq_, h⟩ := h))) <;> (try simp only [Option.some.injEq, Prod.mk.injEq, reduceCtorEq] at h) <;> (try subst_vars) <;> first | (simp_all [kG, mn] <;> (try omega) <;> done) | grind (splits := 60) [kG, mn])
   | (intros; subst_vars; simp_all [kG]; done)
 | succ k =>
  (try simp only [kQ.j0] at h)
  (try simp only [bne, Option.bind_eq_some_iff, bQ] at h)
  (try simp only [bne, jW, wrap_i64])
  first
   | grind (splits := 60) [kG, mn]
   | ((repeat' (first | (have or_ : Or _ _ := h; clear or_; rcases h with h | h) | (have or_ : Exists _ := h; clear or_; obtain ⟨_, h⟩ := h) | (have or_ : And _ _ := h; clear or_; obtain ⟨hq_, h⟩ := h))) <;> (try simp only [Option.some.injEq, Prod.mk.injEq, reduceCtorEq] at h) <;> (try subst_vars) <;> first | (simp_all [kG, mn] <;> (try omega) <;> done) | grind (splits := 60) [kG, mn])
   | (intros; subst_vars; simp_all [kG]; done)
noncomputable def kQ.con (k : Nat) : Con
 | [.int .i64 a0, .int .i64 a1] => some ((kQ.f k a0 a1).isSome, .tup [.int .i64 (gd (kQ.f k a0 a1)).1, .int .i64 (gd (kQ.f k a0 a1)).2])
 | _ => none
set_option maxRecDepth 100000 in
theorem kQ.cok (k : Nat) : COk Tryz.prog 123 (kQ.con k) := by
 intro args p v hc hp w A hA
 unfold kQ.con at hc
 split at hc
 · rename_i a0 a1
   simp only [Option.some.injEq, Prod.mk.injEq] at hc
   obtain ⟨rfl, rfl⟩ := hc
   rcases hf : kQ.f k a0 a1 with _ | ⟨r1, r2⟩
   · rw [hf] at hp; cases hp
   obtain rfl : A = [.int .i64 a0, .int .i64 a1] := by simpa [kF, kJ, kK, kO, kW, kV, jS] using hA
   exact kH (fn := Tryz.f123) Tryz.func123 (by kernel_rfl) (by kernel_rfl) (kQ.calls _ _ _ _ _ w hf) (fun _ => by simp [kG, kF, kJ, kK, kO, kW, kV, bI]) (fun _ h => h)
 · cases hc
def kN.f (k : Nat) (a0_0 : Int) (a0_1 : Int)  (a2 : Int) : Option (Int × Int × Int) := (bX.f a0_0 a0_1).bind fun t178 => (if t178 = true then (if a0_0 = 0 then ((kQ.f k a0_1 a2).bind fun bt179 => ((bR.f bt179.1 bt179.2).bind fun bt181 => (some (bt181.1, bt181.2.1, bt181.2.2)))) else (some (a0_0, a0_1, 0))) else (some (0, 0, 1)))
theorem kN.mono : ∀ a0 a1 a2 k, LeO (kN.f k a0 a1 a2) (kN.f (k + 1) a0 a1 a2) := by
 intro a0 a1 a2 k
 unfold kN.f
 repeat' first
  | (with_reducible exact kQ.mono _ _ _)
  | (with_reducible exact LeO.refl _)
  | (with_reducible exact LeO.none _)
  | (with_reducible refine LeO.ite ?_ ?_)
  | (with_reducible refine LeO.bind ?_ (fun _ => ?_))
  | exact kQ.mono _ _ _
  | exact LeO.none _
  | refine LeO.ite ?_ ?_
  | refine LeO.bind ?_ (fun _ => ?_)
set_option maxRecDepth 100000 in
theorem kN.vc (k : Nat) (a0_0 : Int) (a0_1 : Int) (a2 : Int) (K : AV → Prop) : afv PA Tryz.prog (tab [(124, bX.con), (156, bR.con), (123, kQ.con k)]) noLoops 2 122 [.agg [.int .i64 a0_0, .int .i64 a0_1], .fn (.func 123) [] [], .int .i64 a2] K = (brc (Option.isSome (bX.f a0_0 a0_1)) (∀ (m0 : Bool), m0 = gd (bX.f a0_0 a0_1) → brc (!m0) (K (AV.tup [AV.agg [AV.int IntKind.i64 0, AV.int IntKind.i64 0], AV.int IntKind.i64 1])) (brc (a0_0 != 0) (K (AV.tup [AV.agg [AV.int IntKind.i64 a0_0, AV.int IntKind.i64 a0_1], AV.int IntKind.i64 0])) (brc (Option.isSome (kQ.f k a0_1 a2)) (∀ (m1 : Int), m1 = Prod.fst (gd (kQ.f k a0_1 a2)) → ∀ (m2 : Int), m2 = Prod.snd (gd (kQ.f k a0_1 a2)) → brc (Option.isSome (bR.f m1 m2)) (∀ (m3 : Int), m3 = Prod.fst (gd (bR.f m1 m2)) → ∀ (m4 : Int), m4 = Prod.fst (Prod.snd (gd (bR.f m1 m2))) → ∀ (m5 : Int), m5 = Prod.snd (Prod.snd (gd (bR.f m1 m2))) → K (AV.tup [AV.agg [AV.int IntKind.i64 m3, AV.int IntKind.i64 m4], AV.int IntKind.i64 m5])) False) False))) False) := by kernel_rfl
set_option maxHeartbeats 1000000 in
set_option maxRecDepth 100000 in
theorem kN.calls (k : Nat) (a0_0 : Int) (a0_1 : Int)  (a2 : Int) (r1 : Int) (r2 : Int) (r3 : Int) (w : World) (h : kN.f k a0_0 a0_1 a2 = some (r1, r2, r3)) :
 Calls Tryz.prog 122 #[.agg #[.int .i64 a0_0, .int .i64 a0_1], .func (.func 123) #[] #[], .int .i64 a2] w fun e w' => e = .returned (.tuple #[.agg #[.int .i64 r1, .int .i64 r2], .int .i64 r3]) ∧ Below w.heap.size w w' := by
 refine jG (A := [.agg #[.int .i64 a0_0, .int .i64 a0_1], .func (.func 123) #[] #[], .int .i64 a2]) (v := .tup [.agg [.int .i64 r1, .int .i64 r2], .int .i64 r3]) (kB (bX.cok) (kB (bR.cok) (kB (kQ.cok k) (bA)))) ((kN.vc k a0_0 a0_1 a2 _).mpr ?_) (by simp [kF, kJ, kK, kO, kW, kV, jS]) (fun ρ V' hV => by simpa [kF, kJ, kK, kO, kW, kV, bI] using hV)
 unfold kN.f at h
 (try simp only [bne, Option.bind_eq_some_iff, bQ] at h)
 (try simp only [bne, jW, wrap_i64])
 first
  | grind (splits := 60) [kG]
  | ((repeat' (first | (have or_ : Or _ _ := h; clear or_; rcases h with h | h) | (have or_ : Exists _ := h; clear or_; obtain ⟨_, h⟩ := h) | (have or_ : And _ _ := h; clear or_; obtain ⟨hq_, h⟩ := h))) <;> (try simp only [Option.some.injEq, Prod.mk.injEq, reduceCtorEq] at h) <;> (try subst_vars) <;> first | (simp_all [kG] <;> (try omega) <;> done) | grind (splits := 60) [kG])
  | (intros; subst_vars; simp_all [kG]; done)
noncomputable def kN.con (k : Nat) : Con
 | [.agg [.int .i64 a0_0, .int .i64 a0_1], .fn (.func 123) [] [], .int .i64 a2] => some ((kN.f k a0_0 a0_1 a2).isSome, .tup [.agg [.int .i64 (gd (kN.f k a0_0 a0_1 a2)).1, .int .i64 (gd (kN.f k a0_0 a0_1 a2)).2.1], .int .i64 (gd (kN.f k a0_0 a0_1 a2)).2.2])
 | _ => none
set_option maxRecDepth 100000 in
theorem kN.cok (k : Nat) : COk Tryz.prog 122 (kN.con k) := by
 intro args p v hc hp w A hA
 unfold kN.con at hc
 split at hc
 · rename_i a0_0 a0_1 a2
   simp only [Option.some.injEq, Prod.mk.injEq] at hc
   obtain ⟨rfl, rfl⟩ := hc
   rcases hf : kN.f k a0_0 a0_1 a2 with _ | ⟨r1, r2, r3⟩
   · rw [hf] at hp; cases hp
   obtain rfl : A = [.agg #[.int .i64 a0_0, .int .i64 a0_1], .func (.func 123) #[] #[], .int .i64 a2] := by simpa [kF, kJ, kK, kO, kW, kV, jS] using hA
   exact kH (fn := Tryz.f122) Tryz.func122 (by kernel_rfl) (by kernel_rfl) (kN.calls _ _ _ _ _ _ _ w hf) (fun _ => by simp [kG, kF, kJ, kK, kO, kW, kV, bI]) (fun _ h => h)
 · cases hc
def civil_Weekday.f (a0 : Int) : Option (Int) := (bG.f a0 7).bind fun bt239 => (some (Int.tmod (wrap64 (bt239.2 + 6)) 7))
set_option maxHeartbeats 8000000 in
set_option maxRecDepth 100000 in
theorem civil_Weekday.calls (a0 : Int) (r : Int) (w : World) (h : civil_Weekday.f a0 = some r) :
 Calls Tryz.prog 189 #[.int .i64 a0] w fun e w' => e = .returned (.int .i64 r) ∧ Drawn0 w w' := by
 have H : ((bG.f a0 7).bind fun bt239 => (some (Int.tmod (wrap64 (bt239.2 + 6)) 7))) = some r := h
 clear h
 replace H := Option.bind_eq_some_iff.mp H
 obtain ⟨⟨t239, t240⟩, A20, H⟩ := H
 replace H : (some (Int.tmod (wrap64 (t240 + 6)) 7)) = some r := H
 have A2 := Aside0.mk A20
 clear A20
 obtain rfl := Option.some.inj H
 go_enter Tryz.func189, Tryz.ntmps189
 go_wp2_with (first | ((with_reducible refine kU (f := 159) rfl ?_); refine jD (some 7) rfl rfl Tryz.func159 (by kernel_rfl) rfl #[.int .i64 a0, .int .i64 7] rfl (by (try simp only [List.map_toArray, List.map_cons, List.map_nil]); first | done | rfl | (simp only [List.length_drop, List.length_take]; rfl)) ?_; (with_reducible refine (bG.calls a0 7 t239 t240 _ A2.out).mono ?_); rintro e w' ⟨rfl, ⟨nd, rfl⟩⟩; refine ⟨_, rfl, ?_⟩))
 go_ret
 exact ⟨by first | rfl | (simp; done) | (simp [*]; done), by repeat (first | exact Drawn0.refl _ | apply Drawn0.step)⟩
end Go.Proofs.YtimgphlfaninnaaGreat.P
