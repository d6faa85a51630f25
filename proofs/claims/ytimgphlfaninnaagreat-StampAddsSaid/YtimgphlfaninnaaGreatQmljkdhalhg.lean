import Derived.Test.YtimgphlfaninnaaGreatQdfoehbdgao
import Derived.Test.YtimgphlfaninnaaGreatQjnpockodeo
namespace Go.Proofs.YtimgphlfaninnaaGreat.P
open Go.RowKit Go.Proofs.YtimgphlfaninnaaGreatW.PrintWords Go.Proofs.YtimgphlfaninnaaGreatW.PrintLast Go.Proofs.YtimgphlfaninnaaGreatW.PrintMore
open Go.Proofs.YtimgphlfaninnaaGreat.A
 attribute [local go_sem] bR bQ jC jB bL bM bP bS
set_option linter.unusedVariables false
set_option linter.unusedSimpArgs false
attribute [local go_sem high] eqA103
def jQ.f (a0_0 : Int) (a0_1 : Int) : Option (Bool) := if (a0_0 == (-1) && (a0_1 == 0)) = true then (some true) else (if (a0_0 == 1 && (a0_1 == 0)) = true then (some true) else (if a0_0 = 0 then ((jI.f a0_1).bind fun t161 => (some t161)) else (some false)))
set_option maxRecDepth 100000 in
theorem jQ.vc (a0_0 : Int) (a0_1 : Int) (K : AV → Prop) : afv PA Tryz.prog (tab [(95, jI.con)]) noLoops 2 124 [.agg [.int .i64 a0_0, .int .i64 a0_1]] K = (brc (a0_0 == -1 && (a0_1 == 0 && true)) (K (AV.bool true)) (brc (a0_0 == 1 && (a0_1 == 0 && true)) (K (AV.bool true)) (brc (a0_0 == 0) (brc (Option.isSome (jI.f a0_1)) (∀ m0 : Bool, m0 = gd (jI.f a0_1) → K (AV.bool m0)) False) (K (AV.bool false))))) := by kernel_rfl
set_option maxHeartbeats 1000000 in
set_option maxRecDepth 100000 in
theorem jQ.calls (a0_0 : Int) (a0_1 : Int) (r : Bool) (w : World) (h : jQ.f a0_0 a0_1 = some r) :
 Calls Tryz.prog 124 #[.agg #[.int .i64 a0_0, .int .i64 a0_1]] w fun e w' => e = .returned (.bool r) ∧ Below w.heap.size w w' := by
 refine bW (A := [.agg #[.int .i64 a0_0, .int .i64 a0_1]]) (v := .bool r) (kD (jI.cok) (bE)) ((jQ.vc a0_0 a0_1 _).mpr ?_) (by simp [kG, kL, kM, kN, kZ, kV, jP]) (fun ρ V' hV => by simpa [kG, kL, kM, kN, kZ, kV, bK] using hV)
 unfold jQ.f at h
 (try simp only [bne, Option.bind_eq_some_iff, bN] at h)
 (try simp only [bne, jS, wrap_i64])
 first
  | grind (splits := 60) [kH]
  | ((repeat' (first | (have or_ : Or _ _ := h; clear or_; rcases h with h | h) | (have or_ : Exists _ := h; clear or_; obtain ⟨_, h⟩ := h) | (have or_ : And _ _ := h; clear or_; obtain ⟨hq_, h⟩ := h))) <;> (try simp only [Option.some.injEq, Prod.mk.injEq, reduceCtorEq] at h) <;> (try subst_vars) <;> first | (simp_all [kH] <;> (try omega) <;> done) | grind (splits := 60) [kH])
  | (intros; subst_vars; simp_all [kH]; done)
noncomputable def jQ.con : Con
 | [.agg [.int .i64 a0_0, .int .i64 a0_1]] => some ((jQ.f a0_0 a0_1).isSome, .bool (gd (jQ.f a0_0 a0_1)))
 | _ => none
set_option maxRecDepth 100000 in
theorem jQ.cok : COk Tryz.prog 124 (jQ.con) := by
 intro args p v hc hp w A hA
 unfold jQ.con at hc
 split at hc
 · rename_i a0_0 a0_1
   simp only [Option.some.injEq, Prod.mk.injEq] at hc
   obtain ⟨rfl, rfl⟩ := hc
   rcases hf : jQ.f a0_0 a0_1 with _ | r
   · rw [hf] at hp; cases hp
   obtain rfl : A = [.agg #[.int .i64 a0_0, .int .i64 a0_1]] := by simpa [kG, kL, kM, kN, kZ, kV, jP] using hA
   exact kK (fn := Tryz.f124) Tryz.func124 (by kernel_rfl) (by kernel_rfl) (jQ.calls _ _ _ w hf) (fun _ => by simp [kH, kG, kL, kM, kN, kZ, kV, bK]) (fun _ h => h)
 · cases hc
def jF.f (a0 : Int) (a1 : Int) : Option (Int × Int × Int) := if a1 = 0 then ((jI.f a0).bind fun t163 => (if t163 = true then (some (0, a0, 0)) else (some (0, 0, 10)))) else (some (0, 0, 10))
set_option maxRecDepth 100000 in
theorem jF.vc (a0 : Int) (a1 : Int) (K : AV → Prop) : afv PA Tryz.prog (tab [(95, jI.con)]) noLoops 2 156 [.int .i64 a0, .int .i64 a1] K = (brc (a1 != 0) (K (AV.tup [.agg [.int .i64 0, .int .i64 0], .int .i64 10])) (brc (Option.isSome (jI.f a0)) (∀ m0 : Bool, m0 = gd (jI.f a0) → brc (!m0) (K (AV.tup [.agg [.int .i64 0, .int .i64 0], .int .i64 10])) (K (AV.tup [.agg [.int .i64 0, .int .i64 a0], .int .i64 0]))) False)) := by kernel_rfl
set_option maxHeartbeats 1000000 in
set_option maxRecDepth 100000 in
theorem jF.calls (a0 : Int) (a1 : Int) (r1 : Int) (r2 : Int) (r3 : Int) (w : World) (h : jF.f a0 a1 = some (r1, r2, r3)) :
 Calls Tryz.prog 156 #[.int .i64 a0, .int .i64 a1] w fun e w' => e = .returned (.tuple #[.agg #[.int .i64 r1, .int .i64 r2], .int .i64 r3]) ∧ Below w.heap.size w w' := by
 refine bW (A := [.int .i64 a0, .int .i64 a1]) (v := .tup [.agg [.int .i64 r1, .int .i64 r2], .int .i64 r3]) (kD (jI.cok) (bE)) ((jF.vc a0 a1 _).mpr ?_) (by simp [kG, kL, kM, kN, kZ, kV, jP]) (fun ρ V' hV => by simpa [kG, kL, kM, kN, kZ, kV, bK] using hV)
 unfold jF.f at h
 (try simp only [bne, Option.bind_eq_some_iff, bN] at h)
 (try simp only [bne, jS, wrap_i64])
 first
  | grind (splits := 60) [kH]
  | ((repeat' (first | (have or_ : Or _ _ := h; clear or_; rcases h with h | h) | (have or_ : Exists _ := h; clear or_; obtain ⟨_, h⟩ := h) | (have or_ : And _ _ := h; clear or_; obtain ⟨hq_, h⟩ := h))) <;> (try simp only [Option.some.injEq, Prod.mk.injEq, reduceCtorEq] at h) <;> (try subst_vars) <;> first | (simp_all [kH] <;> (try omega) <;> done) | grind (splits := 60) [kH])
  | (intros; subst_vars; simp_all [kH]; done)
noncomputable def jF.con : Con
 | [.int .i64 a0, .int .i64 a1] => some ((jF.f a0 a1).isSome, .tup [.agg [.int .i64 (gd (jF.f a0 a1)).1, .int .i64 (gd (jF.f a0 a1)).2.1], .int .i64 (gd (jF.f a0 a1)).2.2])
 | _ => none
set_option maxRecDepth 100000 in
theorem jF.cok : COk Tryz.prog 156 (jF.con) := by
 intro args p v hc hp w A hA
 unfold jF.con at hc
 split at hc
 · rename_i a0 a1
   simp only [Option.some.injEq, Prod.mk.injEq] at hc
   obtain ⟨rfl, rfl⟩ := hc
   rcases hf : jF.f a0 a1 with _ | ⟨r1, r2, r3⟩
   · rw [hf] at hp; cases hp
   obtain rfl : A = [.int .i64 a0, .int .i64 a1] := by simpa [kG, kL, kM, kN, kZ, kV, jP] using hA
   exact kK (fn := Tryz.f156) Tryz.func156 (by kernel_rfl) (by kernel_rfl) (jF.calls _ _ _ _ _ w hf) (fun _ => by simp [kH, kG, kL, kM, kN, kZ, kV, bK]) (fun _ h => h)
 · cases hc
def civil_Leap.f (a0 : Int) : Option (Bool) := if (Int.tmod a0 4) = 0 then (if (Int.tmod a0 100) = 0 then (some ((Int.tmod a0 400) == 0)) else (some true)) else (some false)
set_option maxHeartbeats 8000000 in
set_option maxRecDepth 100000 in
theorem civil_Leap.calls (a0 : Int) (r : Bool) (w : World) (h : civil_Leap.f a0 = some r) :
 Calls Tryz.prog 173 #[.int .i64 a0] w fun e w' => e = .returned (.bool r) ∧ Drawn0 w w' := by
 have H : (if (Int.tmod a0 4) = 0 then (if (Int.tmod a0 100) = 0 then (some ((Int.tmod a0 400) == 0)) else (some true)) else (some false)) = some r := h
 clear h
 by_cases c2 : (Int.tmod a0 4) = 0
 · rw [if_pos c2] at H
   have c2b0 : ((Int.tmod a0 4) == 0) = true := beq_iff_eq.mpr c2
   have c2b1 : ((Int.tmod a0 4) != 0) = false := bne_eq_false_iff_eq.mpr c2
   clear c2
   by_cases c3 : (Int.tmod a0 100) = 0
   · rw [if_pos c3] at H
     have c3b0 : ((Int.tmod a0 100) == 0) = true := beq_iff_eq.mpr c3
     have c3b1 : ((Int.tmod a0 100) != 0) = false := bne_eq_false_iff_eq.mpr c3
     clear c3
     obtain rfl := Option.some.inj H
     go_enter Tryz.func173, Tryz.ntmps173
     go_wp2
     go_ret
     exact ⟨by first | rfl | (simp; done) | (simp [*]; done), by repeat (first | exact Drawn0.refl _ | apply Drawn0.step)⟩
   · rw [if_neg c3] at H
     have c3b0 : ((Int.tmod a0 100) == 0) = false := beq_eq_false_iff_ne.mpr c3
     have c3b1 : ((Int.tmod a0 100) != 0) = true := bne_iff_ne.mpr c3
     obtain rfl := Option.some.inj H
     go_enter Tryz.func173, Tryz.ntmps173
     go_wp2
     go_ret
     exact ⟨by first | rfl | (simp; done) | (simp [*]; done), by repeat (first | exact Drawn0.refl _ | apply Drawn0.step)⟩
 · rw [if_neg c2] at H
   have c2b0 : ((Int.tmod a0 4) == 0) = false := beq_eq_false_iff_ne.mpr c2
   have c2b1 : ((Int.tmod a0 4) != 0) = true := bne_iff_ne.mpr c2
   obtain rfl := Option.some.inj H
   go_enter Tryz.func173, Tryz.ntmps173
   go_wp2
   go_ret
   exact ⟨by first | rfl | (simp; done) | (simp [*]; done), by repeat (first | exact Drawn0.refl _ | apply Drawn0.step)⟩
def jW.t (a1 : Int) : Int := if a1 = 2 then 28 else if a1 = 4 then 30 else if a1 = 6 then 30 else if a1 = 9 then 30 else if a1 = 11 then 30 else 31
def jW.f (a0 : Int) (a1 : Int) : Option (Int) := if a1 < 1 then (some 0) else (if a1 > 12 then (some 0) else (if a1 = 2 then ((civil_Leap.f a0).bind fun t103 => (if t103 = true then (some 29) else (some 28))) else (some (jW.t a1))))
set_option maxHeartbeats 8000000 in
set_option maxRecDepth 100000 in
theorem jW.calls (a0 : Int) (a1 : Int) (r : Int) (w : World) (h : jW.f a0 a1 = some r) :
 Calls Tryz.prog 161 #[.int .i64 a0, .int .i64 a1] w fun e w' => e = .returned (.int .i64 r) ∧ Below w.heap.size w w' := by
 have H := h
 unfold jW.f at H
 clear h
 by_cases c2 : a1 < 1
 · rw [if_pos c2] at H
   have c2b0 : decide (a1 < 1) = true := decide_eq_true c2
   obtain rfl := Option.some.inj H
   clear c2
   go_enter Tryz.func161, Tryz.ntmps161
   go_wp2
   go_ret
   exact ⟨rfl, by repeat (first | exact Below.refl _ _ | exact (Below.refl _ _).alloc (Nat.le_refl _) _ | (apply Below.setCell _ (by simp)))⟩
 · rw [if_neg c2] at H
   have c2b0 : decide (a1 < 1) = false := decide_eq_false c2
   clear c2
   by_cases c3 : a1 > 12
   · rw [if_pos c3] at H
     have c3b0 : decide (12 < a1) = true := decide_eq_true c3
     obtain rfl := Option.some.inj H
     clear c3
     go_enter Tryz.func161, Tryz.ntmps161
     go_wp2
     go_ret
     exact ⟨rfl, by repeat (first | exact Below.refl _ _ | exact (Below.refl _ _).alloc (Nat.le_refl _) _ | (apply Below.setCell _ (by simp)))⟩
   · rw [if_neg c3] at H
     have c3b0 : decide (12 < a1) = false := decide_eq_false c3
     have hlo : 1 ≤ a1 := by have := of_decide_eq_false c2b0; omega
     have hhi : a1 ≤ 12 := by omega
     clear c3
     by_cases c4 : a1 = 2
     · rw [if_pos c4] at H
       subst c4
       clear c2b0 c3b0 hlo hhi
       replace H := Option.bind_eq_some_iff.mp H
       obtain ⟨t103, A40, H⟩ := H
       have A4 := Aside0.mk A40
       clear A40
       cases t103 with
       | true =>
        obtain rfl := Option.some.inj H
        clear H
        go_enter Tryz.func161, Tryz.ntmps161
        go_wp2_with (go_at_call 173; (with_reducible refine (civil_Leap.calls a0 true _ A4.out).mono ?_); rintro e w' ⟨rfl, ⟨nd, rfl⟩⟩)
        go_ret
        exact ⟨rfl, by repeat (first | exact Below.refl _ _ | exact (Below.refl _ _).alloc (Nat.le_refl _) _ | (apply zG) | (apply below_drew) | (apply Below.setCell _ (by simp)))⟩
       | false =>
        obtain rfl := Option.some.inj H
        clear H
        go_enter Tryz.func161, Tryz.ntmps161
        go_wp2_with (go_at_call 173; (with_reducible refine (civil_Leap.calls a0 false _ A4.out).mono ?_); rintro e w' ⟨rfl, ⟨nd, rfl⟩⟩)
        go_ret
        exact ⟨rfl, by repeat (first | exact Below.refl _ _ | exact (Below.refl _ _).alloc (Nat.le_refl _) _ | (apply zG) | (apply below_drew) | (apply Below.setCell _ (by simp)))⟩
     · rw [if_neg c4] at H
       obtain rfl := Option.some.inj H
       clear H c2b0 c3b0
       rcases (by omega : a1 = 1 ∨ a1 = 3 ∨ a1 = 4 ∨ a1 = 5 ∨ a1 = 6 ∨ a1 = 7 ∨ a1 = 8 ∨ a1 = 9 ∨ a1 = 10 ∨ a1 = 11 ∨ a1 = 12) with e | e | e | e | e | e | e | e | e | e | e <;> subst e <;> clear hlo hhi c4
       all_goals
        go_enter Tryz.func161, Tryz.ntmps161
        go_wp2
        go_ret
        exact ⟨rfl, by repeat (first | exact Below.refl _ _ | exact (Below.refl _ _).alloc (Nat.le_refl _) _ | (apply zG) | (apply below_drew) | (apply Below.setCell _ (by simp)))⟩
noncomputable def jW.con : Con
 | [.int .i64 a0, .int .i64 a1] => some ((jW.f a0 a1).isSome, .int .i64 (gd (jW.f a0 a1)))
 | _ => none
set_option maxRecDepth 100000 in
theorem jW.cok : COk Tryz.prog 161 (jW.con) := by
 intro args p v hc hp w A hA
 unfold jW.con at hc
 split at hc
 · rename_i a0 a1
   simp only [Option.some.injEq, Prod.mk.injEq] at hc
   obtain ⟨rfl, rfl⟩ := hc
   rcases hf : jW.f a0 a1 with _ | r
   · rw [hf] at hp; cases hp
   obtain rfl : A = [.int .i64 a0, .int .i64 a1] := by simpa [kG, kL, kM, kN, kZ, kV, jP] using hA
   exact kK (fn := Tryz.f161) Tryz.func161 (by kernel_rfl) (by kernel_rfl) (jW.calls _ _ _ w hf) (fun _ => by simp [kH, kG, kL, kM, kN, kZ, kV, bK]) (fun _ h => h)
 · cases hc
def jX.f (a0 : Int) (a1 : Int) (a2 : Int) : Option (Bool) := if a0 ≥ (-4718) then (if a0 ≤ 294282 then (if a2 ≥ 1 then ((jW.f a0 a1).bind fun t164 => (some (decide (a2 ≤ t164)))) else (some false)) else (some false)) else (some false)
set_option maxRecDepth 100000 in
theorem jX.vc (a0 : Int) (a1 : Int) (a2 : Int) (K : AV → Prop) : afv PA Tryz.prog (tab [(161, jW.con)]) noLoops 2 172 [.int .i64 a0, .int .i64 a1, .int .i64 a2] K = (brc (decide (a0 ≥ -4718)) (brc (decide (a0 ≤ 294282)) (brc (decide (a2 ≥ 1)) (brc (Option.isSome (jW.f a0 a1)) (∀ m0 : Int, m0 = gd (jW.f a0 a1) → K (AV.bool (decide (a2 ≤ m0)))) False) (K (AV.bool false))) (K (AV.bool false))) (K (AV.bool false))) := by kernel_rfl
set_option maxHeartbeats 1000000 in
set_option maxRecDepth 100000 in
theorem jX.calls (a0 : Int) (a1 : Int) (a2 : Int) (r : Bool) (w : World) (h : jX.f a0 a1 a2 = some r) :
 Calls Tryz.prog 172 #[.int .i64 a0, .int .i64 a1, .int .i64 a2] w fun e w' => e = .returned (.bool r) ∧ Below w.heap.size w w' := by
 refine bW (A := [.int .i64 a0, .int .i64 a1, .int .i64 a2]) (v := .bool r) (kD (jW.cok) (bE)) ((jX.vc a0 a1 a2 _).mpr ?_) (by simp [kG, kL, kM, kN, kZ, kV, jP]) (fun ρ V' hV => by simpa [kG, kL, kM, kN, kZ, kV, bK] using hV)
 unfold jX.f at h
 (try simp only [bne, Option.bind_eq_some_iff, bN] at h)
 (try simp only [bne, jS, wrap_i64])
 first
  | grind (splits := 60) [kH]
  | ((repeat' (first | (have or_ : Or _ _ := h; clear or_; rcases h with h | h) | (have or_ : Exists _ := h; clear or_; obtain ⟨_, h⟩ := h) | (have or_ : And _ _ := h; clear or_; obtain ⟨hq_, h⟩ := h))) <;> (try simp only [Option.some.injEq, Prod.mk.injEq, reduceCtorEq] at h) <;> (try subst_vars) <;> first | (simp_all [kH] <;> (try omega) <;> done) | grind (splits := 60) [kH])
  | (intros; subst_vars; simp_all [kH]; done)
noncomputable def jX.con : Con
 | [.int .i64 a0, .int .i64 a1, .int .i64 a2] => some ((jX.f a0 a1 a2).isSome, .bool (gd (jX.f a0 a1 a2)))
 | _ => none
set_option maxRecDepth 100000 in
theorem jX.cok : COk Tryz.prog 172 (jX.con) := by
 intro args p v hc hp w A hA
 unfold jX.con at hc
 split at hc
 · rename_i a0 a1 a2
   simp only [Option.some.injEq, Prod.mk.injEq] at hc
   obtain ⟨rfl, rfl⟩ := hc
   rcases hf : jX.f a0 a1 a2 with _ | r
   · rw [hf] at hp; cases hp
   obtain rfl : A = [.int .i64 a0, .int .i64 a1, .int .i64 a2] := by simpa [kG, kL, kM, kN, kZ, kV, jP] using hA
   exact kK (fn := Tryz.f172) Tryz.func172 (by kernel_rfl) (by kernel_rfl) (jX.calls _ _ _ _ w hf) (fun _ => by simp [kH, kG, kL, kM, kN, kZ, kV, bK]) (fun _ h => h)
 · cases hc
end Go.Proofs.YtimgphlfaninnaaGreat.P
namespace Go.Proofs.YtimgphlfaninnaaGreat.P
open Go.RowKit Go.Proofs.YtimgphlfaninnaaGreatW.PrintWords Go.Proofs.YtimgphlfaninnaaGreatW.PrintLast Go.Proofs.YtimgphlfaninnaaGreatW.PrintMore
open Go.Proofs.YtimgphlfaninnaaGreat.A
 attribute [local go_sem] bR bQ jC jB bL bM bP bS
set_option linter.unusedVariables false
set_option linter.unusedSimpArgs false
def jV.f (a0 : Int) (a1 : Int) (a2 : Int) : Option (Int × Int) := (jX.f a0 a1 a2).bind fun t165 => (if t165 = true then ((zC.f a0 a1 a2).bind fun t166 => (some (t166, 0))) else (some (0, 10)))
set_option maxRecDepth 100000 in
theorem jV.vc (a0 : Int) (a1 : Int) (a2 : Int) (K : AV → Prop) : afv PA Tryz.prog (tab [(162, zC.con), (172, jX.con)]) noLoops 2 160 [.int .i64 a0, .int .i64 a1, .int .i64 a2] K = (brc (Option.isSome (jX.f a0 a1 a2)) (∀ m0 : Bool, m0 = gd (jX.f a0 a1 a2) → brc (!m0) (K (AV.tup [.int .i64 0, .int .i64 10])) (brc (Option.isSome (zC.f a0 a1 a2)) (∀ m1 : Int, m1 = gd (zC.f a0 a1 a2) → K (AV.tup [.int .i64 m1, .int .i64 0])) False)) False) := by kernel_rfl
set_option maxHeartbeats 1000000 in
set_option maxRecDepth 100000 in
theorem jV.calls (a0 : Int) (a1 : Int) (a2 : Int) (r1 : Int) (r2 : Int) (w : World) (h : jV.f a0 a1 a2 = some (r1, r2)) :
 Calls Tryz.prog 160 #[.int .i64 a0, .int .i64 a1, .int .i64 a2] w fun e w' => e = .returned (.tuple #[.int .i64 r1, .int .i64 r2]) ∧ Below w.heap.size w w' := by
 refine bW (A := [.int .i64 a0, .int .i64 a1, .int .i64 a2]) (v := .tup [.int .i64 r1, .int .i64 r2]) (kD (zC.cok) (kD (jX.cok) (bE))) ((jV.vc a0 a1 a2 _).mpr ?_) (by simp [kG, kL, kM, kN, kZ, kV, jP]) (fun ρ V' hV => by simpa [kG, kL, kM, kN, kZ, kV, bK] using hV)
 unfold jV.f at h
 (try simp only [bne, Option.bind_eq_some_iff, bN] at h)
 (try simp only [bne, jS, wrap_i64])
 first
  | grind (splits := 60) [kH]
  | ((repeat' (first | (have or_ : Or _ _ := h; clear or_; rcases h with h | h) | (have or_ : Exists _ := h; clear or_; obtain ⟨_, h⟩ := h) | (have or_ : And _ _ := h; clear or_; obtain ⟨hq_, h⟩ := h))) <;> (try simp only [Option.some.injEq, Prod.mk.injEq, reduceCtorEq] at h) <;> (try subst_vars) <;> first | (simp_all [kH] <;> (try omega) <;> done) | grind (splits := 60) [kH])
  | (intros; subst_vars; simp_all [kH]; done)
noncomputable def jV.con : Con
 | [.int .i64 a0, .int .i64 a1, .int .i64 a2] => some ((jV.f a0 a1 a2).isSome, .tup [.int .i64 (gd (jV.f a0 a1 a2)).1, .int .i64 (gd (jV.f a0 a1 a2)).2])
 | _ => none
set_option maxRecDepth 100000 in
theorem jV.cok : COk Tryz.prog 160 (jV.con) := by
 intro args p v hc hp w A hA
 unfold jV.con at hc
 split at hc
 · rename_i a0 a1 a2
   simp only [Option.some.injEq, Prod.mk.injEq] at hc
   obtain ⟨rfl, rfl⟩ := hc
   rcases hf : jV.f a0 a1 a2 with _ | ⟨r1, r2⟩
   · rw [hf] at hp; cases hp
   obtain rfl : A = [.int .i64 a0, .int .i64 a1, .int .i64 a2] := by simpa [kG, kL, kM, kN, kZ, kV, jP] using hA
   exact kK (fn := Tryz.f160) Tryz.func160 (by kernel_rfl) (by kernel_rfl) (jV.calls _ _ _ _ _ w hf) (fun _ => by simp [kH, kG, kL, kM, kN, kZ, kV, bK]) (fun _ h => h)
 · cases hc
def bH.j0 : Nat → Int → Int → Bool → Option (Int × Int)
 | 0, _, _, _ => none
 | k + 1, x0, x1, x19 => if x19 = true then (some (0, 10)) else ((jD.f x0).bind fun bt168 => ((bU.f (wrap64 ((wrap64 ((wrap64 ((wrap64 (12 * bt168.1)) + bt168.2.1)) - 1)) + x1)) 12).bind fun bt171 => ((jW.f bt171.1 (wrap64 (bt171.2 + 1))).bind fun t173 => ((jV.f bt171.1 (wrap64 (bt171.2 + 1)) (mn bt168.2.2 t173)).bind fun bt174 => (some (bt174.1, bt174.2))))))
def bH.f (k : Nat) (a0 : Int) (a1 : Int) : Option (Int × Int) := (zE.f a0).bind fun t167 => (if t167 = true then (if a1 > 3600000 then (bH.j0 k a0 a1 true) else (bH.j0 k a0 a1 (decide (a1 < (-3600000))))) else (bH.j0 k a0 a1 true))
theorem bH.mono_l : ∀ k, (∀ y0 y1 y2, LeO (bH.j0 k y0 y1 y2) (bH.j0 (k + 1) y0 y1 y2))
 | 0 => fun _ _ _ r h => by simp [bH.j0] at h
 | k + 1 => by
  have ih0 := bH.mono_l k
  · intro y0 y1 y2
    unfold bH.j0
    repeat' first
    | (with_reducible exact ih0 _ _ _)
    | (with_reducible exact LeO.refl _)
    | (with_reducible exact LeO.none _)
    | (with_reducible refine LeO.ite ?_ ?_)
    | (with_reducible refine LeO.bind ?_ (fun _ => ?_))
    | exact ih0 _ _ _
    | exact LeO.none _
    | refine LeO.ite ?_ ?_
    | refine LeO.bind ?_ (fun _ => ?_)
theorem bH.mono : ∀ a0 a1 k, LeO (bH.f k a0 a1) (bH.f (k + 1) a0 a1) := by
 intro a0 a1 k
 have ih0 := bH.mono_l k
 unfold bH.f
 repeat' first
  | (with_reducible exact ih0 _ _ _)
  | (with_reducible exact LeO.refl _)
  | (with_reducible exact LeO.none _)
  | (with_reducible refine LeO.ite ?_ ?_)
  | (with_reducible refine LeO.bind ?_ (fun _ => ?_))
  | exact ih0 _ _ _
  | exact LeO.none _
  | refine LeO.ite ?_ ?_
  | refine LeO.bind ?_ (fun _ => ?_)
set_option maxRecDepth 100000 in
theorem bH.vc (k : Nat) (a0 : Int) (a1 : Int) (K : AV → Prop) : afv PA Tryz.prog (tab [(157, zE.con), (158, jD.con), (159, bU.con), (160, jV.con), (161, jW.con)]) noLoops 2 123 [.int .i64 a0, .int .i64 a1] K = (brc (Option.isSome (zE.f a0)) (∀ m0 : Bool, m0 = gd (zE.f a0) → brc (!m0) (K (AV.tup [.int .i64 0, .int .i64 10])) (brc (decide (a1 > 3600000)) (K (AV.tup [.int .i64 0, .int .i64 10])) (brc (decide (a1 < -3600000)) (K (AV.tup [.int .i64 0, .int .i64 10])) (brc (Option.isSome (jD.f a0)) (∀ m1 : Int, m1 = Prod.fst (gd (jD.f a0)) → ∀ m2 : Int, m2 = Prod.fst (Prod.snd (gd (jD.f a0))) → ∀ m3 : Int, m3 = Prod.snd (Prod.snd (gd (jD.f a0))) → brc (Option.isSome (bU.f (IntKind.wrap .i64 (IntKind.wrap .i64 (IntKind.wrap .i64 (IntKind.wrap .i64 (12 * m1) + m2) - 1) + a1)) 12)) (∀ m4 : Int, m4 = Prod.fst (gd (bU.f (IntKind.wrap .i64 (IntKind.wrap .i64 (IntKind.wrap .i64 (IntKind.wrap .i64 (12 * m1) + m2) - 1) + a1)) 12)) → ∀ m5 : Int, m5 = Prod.snd (gd (bU.f (IntKind.wrap .i64 (IntKind.wrap .i64 (IntKind.wrap .i64 (IntKind.wrap .i64 (12 * m1) + m2) - 1) + a1)) 12)) → brc (Option.isSome (jW.f m4 (IntKind.wrap .i64 (m5 + 1)))) (∀ m6 : Int, m6 = gd (jW.f m4 (IntKind.wrap .i64 (m5 + 1))) → brc (Option.isSome (jV.f m4 (IntKind.wrap .i64 (m5 + 1)) (if m6 < m3 then m6 else m3))) (∀ m7 : Int, m7 = Prod.fst (gd (jV.f m4 (IntKind.wrap .i64 (m5 + 1)) (if m6 < m3 then m6 else m3))) → ∀ m8 : Int, m8 = Prod.snd (gd (jV.f m4 (IntKind.wrap .i64 (m5 + 1)) (if m6 < m3 then m6 else m3))) → K (AV.tup [.int .i64 m7, .int .i64 m8])) False) False) False) False)))) False) := by kernel_rfl
set_option maxHeartbeats 1000000 in
set_option maxRecDepth 100000 in
theorem bH.calls (k : Nat) (a0 : Int) (a1 : Int) (r1 : Int) (r2 : Int) (w : World) (h : bH.f k a0 a1 = some (r1, r2)) :
 Calls Tryz.prog 123 #[.int .i64 a0, .int .i64 a1] w fun e w' => e = .returned (.tuple #[.int .i64 r1, .int .i64 r2]) ∧ Below w.heap.size w w' := by
 refine bW (A := [.int .i64 a0, .int .i64 a1]) (v := .tup [.int .i64 r1, .int .i64 r2]) (kD (zE.cok) (kD (jD.cok) (kD (bU.cok) (kD (jV.cok) (kD (jW.cok) (bE)))))) ((bH.vc k a0 a1 _).mpr ?_) (by simp [kG, kL, kM, kN, kZ, kV, jP]) (fun ρ V' hV => by simpa [kG, kL, kM, kN, kZ, kV, bK] using hV)
 unfold bH.f at h
 cases k with
 | zero =>
  (try simp only [bH.j0] at h)
  (try simp only [bne, Option.bind_eq_some_iff, bN] at h)
  (try simp only [bne, jS, wrap_i64])
  first
   | grind (splits := 60) [kH, mn]
   | ((repeat' (first | (have or_ : Or _ _ := h; clear or_; rcases h with h | h) | (have or_ : Exists _ := h; clear or_; obtain ⟨_, h⟩ := h) | (have or_ : And _ _ := h; clear or_; obtain ⟨hq_, h⟩ := h))) <;> (try simp only [Option.some.injEq, Prod.mk.injEq, reduceCtorEq] at h) <;> (try subst_vars) <;> first | (simp_all [kH, mn] <;> (try omega) <;> done) | grind (splits := 60) [kH, mn])
   | (intros; subst_vars; simp_all [kH]; done)
 | succ k =>
  (try simp only [bH.j0] at h)
  (try simp only [bne, Option.bind_eq_some_iff, bN] at h)
  (try simp only [bne, jS, wrap_i64])
  first
   | grind (splits := 60) [kH, mn]
   | ((repeat' (first | (have or_ : Or _ _ := h; clear or_; rcases h with h | h) | (have or_ : Exists _ := h; clear or_; obtain ⟨_, h⟩ := h) | (have or_ : And _ _ := h; clear or_; obtain ⟨hq_, h⟩ := h))) <;> (try simp only [Option.some.injEq, Prod.mk.injEq, reduceCtorEq] at h) <;> (try subst_vars) <;> first | (simp_all [kH, mn] <;> (try omega) <;> done) | grind (splits := 60) [kH, mn])
   | (intros; subst_vars; simp_all [kH]; done)
noncomputable def bH.con (k : Nat) : Con
 | [.int .i64 a0, .int .i64 a1] => some ((bH.f k a0 a1).isSome, .tup [.int .i64 (gd (bH.f k a0 a1)).1, .int .i64 (gd (bH.f k a0 a1)).2])
 | _ => none
set_option maxRecDepth 100000 in
theorem bH.cok (k : Nat) : COk Tryz.prog 123 (bH.con k) := by
 intro args p v hc hp w A hA
 unfold bH.con at hc
 split at hc
 · rename_i a0 a1
   simp only [Option.some.injEq, Prod.mk.injEq] at hc
   obtain ⟨rfl, rfl⟩ := hc
   rcases hf : bH.f k a0 a1 with _ | ⟨r1, r2⟩
   · rw [hf] at hp; cases hp
   obtain rfl : A = [.int .i64 a0, .int .i64 a1] := by simpa [kG, kL, kM, kN, kZ, kV, jP] using hA
   exact kK (fn := Tryz.f123) Tryz.func123 (by kernel_rfl) (by kernel_rfl) (bH.calls _ _ _ _ _ w hf) (fun _ => by simp [kH, kG, kL, kM, kN, kZ, kV, bK]) (fun _ h => h)
 · cases hc
def bD.f (k : Nat) (a0_0 : Int) (a0_1 : Int)  (a2 : Int) : Option (Int × Int × Int) := (jQ.f a0_0 a0_1).bind fun t178 => (if t178 = true then (if a0_0 = 0 then ((bH.f k a0_1 a2).bind fun bt179 => ((jF.f bt179.1 bt179.2).bind fun bt181 => (some (bt181.1, bt181.2.1, bt181.2.2)))) else (some (a0_0, a0_1, 0))) else (some (0, 0, 1)))
theorem bD.mono : ∀ a0 a1 a2 k, LeO (bD.f k a0 a1 a2) (bD.f (k + 1) a0 a1 a2) := by
 intro a0 a1 a2 k
 unfold bD.f
 repeat' first
  | (with_reducible exact bH.mono _ _ _)
  | (with_reducible exact LeO.refl _)
  | (with_reducible exact LeO.none _)
  | (with_reducible refine LeO.ite ?_ ?_)
  | (with_reducible refine LeO.bind ?_ (fun _ => ?_))
  | exact bH.mono _ _ _
  | exact LeO.none _
  | refine LeO.ite ?_ ?_
  | refine LeO.bind ?_ (fun _ => ?_)
set_option maxRecDepth 100000 in
theorem bD.vc (k : Nat) (a0_0 : Int) (a0_1 : Int) (a2 : Int) (K : AV → Prop) : afv PA Tryz.prog (tab [(124, jQ.con), (156, jF.con), (123, bH.con k)]) noLoops 2 122 [.agg [.int .i64 a0_0, .int .i64 a0_1], .fn (.func 123) [] [], .int .i64 a2] K = (brc (Option.isSome (jQ.f a0_0 a0_1)) (∀ m0 : Bool, m0 = gd (jQ.f a0_0 a0_1) → brc (!m0) (K (AV.tup [.agg [.int .i64 0, .int .i64 0], .int .i64 1])) (brc (a0_0 != 0) (K (AV.tup [.agg [.int .i64 a0_0, .int .i64 a0_1], .int .i64 0])) (brc (Option.isSome (bH.f k a0_1 a2)) (∀ m1 : Int, m1 = Prod.fst (gd (bH.f k a0_1 a2)) → ∀ m2 : Int, m2 = Prod.snd (gd (bH.f k a0_1 a2)) → brc (Option.isSome (jF.f m1 m2)) (∀ m3 : Int, m3 = Prod.fst (gd (jF.f m1 m2)) → ∀ m4 : Int, m4 = Prod.fst (Prod.snd (gd (jF.f m1 m2))) → ∀ m5 : Int, m5 = Prod.snd (Prod.snd (gd (jF.f m1 m2))) → K (AV.tup [.agg [.int .i64 m3, .int .i64 m4], .int .i64 m5])) False) False))) False) := by kernel_rfl
set_option maxHeartbeats 1000000 in
set_option maxRecDepth 100000 in
theorem bD.calls (k : Nat) (a0_0 : Int) (a0_1 : Int)  (a2 : Int) (r1 : Int) (r2 : Int) (r3 : Int) (w : World) (h : bD.f k a0_0 a0_1 a2 = some (r1, r2, r3)) :
 Calls Tryz.prog 122 #[.agg #[.int .i64 a0_0, .int .i64 a0_1], .func (.func 123) #[] #[], .int .i64 a2] w fun e w' => e = .returned (.tuple #[.agg #[.int .i64 r1, .int .i64 r2], .int .i64 r3]) ∧ Below w.heap.size w w' := by
 refine bW (A := [.agg #[.int .i64 a0_0, .int .i64 a0_1], .func (.func 123) #[] #[], .int .i64 a2]) (v := .tup [.agg [.int .i64 r1, .int .i64 r2], .int .i64 r3]) (kD (jQ.cok) (kD (jF.cok) (kD (bH.cok k) (bE)))) ((bD.vc k a0_0 a0_1 a2 _).mpr ?_) (by simp [kG, kL, kM, kN, kZ, kV, jP]) (fun ρ V' hV => by simpa [kG, kL, kM, kN, kZ, kV, bK] using hV)
 unfold bD.f at h
 (try simp only [bne, Option.bind_eq_some_iff, bN] at h)
 (try simp only [bne, jS, wrap_i64])
 first
  | grind (splits := 60) [kH]
  | ((repeat' (first | (have or_ : Or _ _ := h; clear or_; rcases h with h | h) | (have or_ : Exists _ := h; clear or_; obtain ⟨_, h⟩ := h) | (have or_ : And _ _ := h; clear or_; obtain ⟨hq_, h⟩ := h))) <;> (try simp only [Option.some.injEq, Prod.mk.injEq, reduceCtorEq] at h) <;> (try subst_vars) <;> first | (simp_all [kH] <;> (try omega) <;> done) | grind (splits := 60) [kH])
  | (intros; subst_vars; simp_all [kH]; done)
noncomputable def bD.con (k : Nat) : Con
 | [.agg [.int .i64 a0_0, .int .i64 a0_1], .fn (.func 123) [] [], .int .i64 a2] => some ((bD.f k a0_0 a0_1 a2).isSome, .tup [.agg [.int .i64 (gd (bD.f k a0_0 a0_1 a2)).1, .int .i64 (gd (bD.f k a0_0 a0_1 a2)).2.1], .int .i64 (gd (bD.f k a0_0 a0_1 a2)).2.2])
 | _ => none
set_option maxRecDepth 100000 in
theorem bD.cok (k : Nat) : COk Tryz.prog 122 (bD.con k) := by
 intro args p v hc hp w A hA
 unfold bD.con at hc
 split at hc
 · rename_i a0_0 a0_1 a2
   simp only [Option.some.injEq, Prod.mk.injEq] at hc
   obtain ⟨rfl, rfl⟩ := hc
   rcases hf : bD.f k a0_0 a0_1 a2 with _ | ⟨r1, r2, r3⟩
   · rw [hf] at hp; cases hp
   obtain rfl : A = [.agg #[.int .i64 a0_0, .int .i64 a0_1], .func (.func 123) #[] #[], .int .i64 a2] := by simpa [kG, kL, kM, kN, kZ, kV, jP] using hA
   exact kK (fn := Tryz.f122) Tryz.func122 (by kernel_rfl) (by kernel_rfl) (bD.calls _ _ _ _ _ _ _ w hf) (fun _ => by simp [kH, kG, kL, kM, kN, kZ, kV, bK]) (fun _ h => h)
 · cases hc
def civil_Weekday.f (a0 : Int) : Option (Int) := (bU.f a0 7).bind fun bt239 => (some (Int.tmod (wrap64 (bt239.2 + 6)) 7))
set_option maxHeartbeats 8000000 in
set_option maxRecDepth 100000 in
theorem civil_Weekday.calls (a0 : Int) (r : Int) (w : World) (h : civil_Weekday.f a0 = some r) :
 Calls Tryz.prog 189 #[.int .i64 a0] w fun e w' => e = .returned (.int .i64 r) ∧ Drawn0 w w' := by
 have H : ((bU.f a0 7).bind fun bt239 => (some (Int.tmod (wrap64 (bt239.2 + 6)) 7))) = some r := h
 clear h
 replace H := Option.bind_eq_some_iff.mp H
 obtain ⟨⟨t239, t240⟩, A20, H⟩ := H
 replace H : (some (Int.tmod (wrap64 (t240 + 6)) 7)) = some r := H
 have A2 := Aside0.mk A20
 clear A20
 obtain rfl := Option.some.inj H
 go_enter Tryz.func189, Tryz.ntmps189
 go_wp2_with (first | ((with_reducible refine bC (f := 159) rfl ?_); refine jH (some 7) rfl rfl Tryz.func159 (by kernel_rfl) rfl #[.int .i64 a0, .int .i64 7] rfl (by (try simp only [List.map_toArray, List.map_cons, List.map_nil]); first | done | rfl | (simp only [List.length_drop, List.length_take]; rfl)) ?_; (with_reducible refine (bU.calls a0 7 t239 t240 _ A2.out).mono ?_); rintro e w' ⟨rfl, ⟨nd, rfl⟩⟩; refine ⟨_, rfl, ?_⟩))
 go_ret
 exact ⟨by first | rfl | (simp; done) | (simp [*]; done), by repeat (first | exact Drawn0.refl _ | apply Drawn0.step)⟩
end Go.Proofs.YtimgphlfaninnaaGreat.P
namespace Go.Proofs.YtimgphlfaninnaaGreat.Civ
set_option linter.unusedVariables false
set_option linter.unusedSimpArgs false
open Go.RowKit Go.Proofs.YtimgphlfaninnaaGreatW.PrintWords Go.Proofs.YtimgphlfaninnaaGreatW.PrintLast Go.Proofs.YtimgphlfaninnaaGreatW.PrintMore Go.Proofs.YtimgphlfaninnaaGreat.P
theorem floor_eq (a b : Int) (ha : I64 a) (hb : 1 < b) (hb2 : b ≤ 4611686018427387904) : bU.f a b = some (a / b, a % b) := by
 have c := cut_floor a (b := b) (by omega)
 have q := ediv_i64 (b := b) ha (by omega)
 have h1 := Int.emod_nonneg a (b := b) (by omega)
 have h2 := Int.emod_lt_of_pos a (b := b) (by omega)
 unfold bU.f
 rw [if_neg (by omega)]
 by_cases h : Int.tmod a b < 0
 · obtain ⟨c1, c2, _⟩ := c.1 h
   rw [if_pos h, c1, c2]
   have q2 : a / b + 1 ≤ 9223372036854775807 := by
    have : a / b ≤ 4611686018427387904 := by
     rcases Int.lt_or_le a 0 with g | g
     · have : a / b < 0 := Int.ediv_lt_of_lt_mul (by omega) (by omega)
       omega
     · have := Int.ediv_le_ediv (c := 2) (by omega) ha.2
       have h3 : a / b ≤ a / 2 := by
        rw [Int.le_ediv_iff_mul_le (by omega)]
        have e := Int.mul_ediv_add_emod a b
        have h4 := Int.emod_nonneg a (b := b) (by omega)
        have h5 : 0 ≤ a / b := Int.ediv_nonneg g (by omega)
        have h6 : a / b * 2 ≤ a / b * b := Int.mul_le_mul_of_nonneg_left (by omega) h5
        rw [Int.mul_comm b] at e
        omega
       omega
    omega
   rw [w64 (x := a / b + 1) (by omega) (by omega), w64 (by omega) (by omega), w64 (by omega) (by omega)]
   congr 2 <;> omega
 · obtain ⟨c1, c2⟩ := c.2 h
   rw [if_neg h, c1, c2, w64 q.1 q.2]
theorem leap_eq (y : Int) : civil_Leap.f y = some (decide (lp y = 1)) := by
 unfold civil_Leap.f lp
 simp only [tmod_zero_iff y (b := 4) (by omega), tmod_zero_iff y (b := 100) (by omega)]
 have e : (Int.tmod y 400 == 0) = decide (y % 400 = 0) := by
  have := tmod_zero_iff y (b := 400) (by omega)
  by_cases h : y % 400 = 0
  · rw [decide_eq_true h, beq_iff_eq.2 (this.2 h)]
  · rw [decide_eq_false h, beq_eq_false_iff_ne.2 (fun g => h (this.1 g))]
 rw [e]
 by_cases h1 : y % 4 = 0
 · rw [if_pos h1]
   by_cases h2 : y % 100 = 0
   · rw [if_pos h2]
     by_cases h3 : y % 400 = 0 <;> simp [h1, h2, h3]
   · rw [if_neg h2]; simp [h1, h2]
 · rw [if_neg h1]; simp [h1]
theorem len_eq (y m : Int) : jW.f y m = some (mlen y m) := by
 have hl := lp_01 y
 unfold jW.f
 by_cases h1 : m < 1
 · rw [if_pos h1, mlen_out y m (by omega)]
 · rw [if_neg h1]
   by_cases h2 : m > 12
   · rw [if_pos h2, mlen_out y m (by omega)]
   · rw [if_neg h2]
     rcases twelve (m := m) (by omega) (by omega) with e | e | e | e | e | e | e | e | e | e | e | e <;> subst e <;> simp [mlen, jW.t, leap_eq]
     by_cases h3 : lp y = 1
     · rw [if_pos h3, h3]; rfl
     · rw [if_neg h3, show lp y = 0 by omega]; rfl
def DateOk (y m d : Int) : Prop := -4718 ≤ y ∧ y ≤ 294282 ∧ 1 ≤ m ∧ m ≤ 12 ∧ 1 ≤ d ∧ d ≤ mlen y m
instance (y m d : Int) : Decidable (DateOk y m d) := inferInstanceAs (Decidable (_ ∧ _))
theorem right_eq (y m d : Int) : jX.f y m d = some (decide (DateOk y m d)) := by
 have hl := mlen_up y m
 unfold jX.f
 by_cases h1 : y ≥ -4718
 · rw [if_pos h1]
   by_cases h2 : y ≤ 294282
   · rw [if_pos h2]
     by_cases h3 : d ≥ 1
     · rw [if_pos h3, len_eq]
       simp only [Option.bind_some]
       have : decide (d ≤ mlen y m) = decide (DateOk y m d) := by
        apply decide_eq_decide.2
        unfold DateOk
        constructor
        · intro h
          rcases Int.lt_or_le m 1 with g | g
          · rw [mlen_out y m (by omega)] at h; omega
          · rcases Int.lt_or_le 12 m with g2 | g2
            · rw [mlen_out y m (by omega)] at h; omega
            · omega
        · omega
       rw [this]
     · rw [if_neg h3, decide_eq_false (by unfold DateOk; omega)]
   · rw [if_neg h2, decide_eq_false (by unfold DateOk; omega)]
 · rw [if_neg h1, decide_eq_false (by unfold DateOk; omega)]
theorem era_eq (y : Int) : y / 400 * 146097 + y % 400 * 365 + y % 400 / 4 - y % 400 / 100 = 365 * y + y / 4 - y / 100 + y / 400 := by omega
theorem day_eq (y m d : Int) (h1 : 1 ≤ m) (h2 : m ≤ 12) (hy : -2000000 ≤ y) (hy2 : y ≤ 2000000) (hd : -100 ≤ d) (hd2 : d ≤ 100) : zC.f y m d = some (dnum y m d) := by
 have hl := lp_01 y
 unfold zC.f
 by_cases hm : m ≤ 2
 · rw [if_pos hm, w64 (x := y - 1) (by omega) (by omega), floor_eq _ _ (by unfold I64; omega) (by omega) (by omega)]
   simp only [Option.bind_some]
   simp (disch := omega) only [w64, td_pos]
   have e := era_eq (y - 1)
   congr 1
   unfold dnum dby
   rcases (by omega : m = 1 ∨ m = 2) with e | e <;> subst e <;> simp [cum] <;> omega
 · rw [if_neg hm, floor_eq _ _ (by unfold I64; omega) (by omega) (by omega)]
   simp only [Option.bind_some]
   simp (disch := omega) only [w64, td_pos]
   have e := era_eq y
   have e2 := dby_succ y
   have e3 : dby (y + 1) = 365 * (y - 1999) + y / 4 - y / 100 + y / 400 - 484 := by unfold dby; omega
   congr 1
   unfold dnum
   have : cum y m = (153 * (m - 3) + 2) / 5 + 59 + lp y := by
    rcases (by omega : m = 3 ∨ m = 4 ∨ m = 5 ∨ m = 6 ∨ m = 7 ∨ m = 8 ∨ m = 9 ∨ m = 10 ∨ m = 11 ∨ m = 12) with e | e | e | e | e | e | e | e | e | e <;> subst e <;> simp [cum]
   omega
theorem days_eq (y m d : Int) : jV.f y m d = some (if DateOk y m d then (dnum y m d, 0) else (0, 10)) := by
 unfold jV.f
 rw [right_eq]
 simp only [Option.bind_some, decide_eq_true_eq]
 by_cases h : DateOk y m d
 · have hl := mlen_up y m
   have h' := h
   unfold DateOk at h'
   rw [if_pos h, if_pos h, day_eq y m d (by omega) (by omega) (by omega) (by omega) (by omega) (by omega)]
   rfl
 · rw [if_neg h, if_neg h]
theorem firstday_eq : civil_First.f = some (-2453698) := by
 unfold civil_First.f
 rw [day_eq _ _ _ (by omega) (by omega) (by omega) (by omega) (by omega) (by omega)]
 rfl
theorem lastday_eq : civil_Last.f = some 106754173 := by
 unfold civil_Last.f
 rw [day_eq _ _ _ (by omega) (by omega) (by omega) (by omega) (by omega) (by omega)]
 rfl
instance (n : Int) : Decidable (CanDay n) := inferInstanceAs (Decidable (_ ∧ _))
theorem can_eq (n : Int) : zE.f n = some (decide (CanDay n)) := by
 unfold zE.f
 rw [firstday_eq]
 simp only [Option.bind_some]
 by_cases h : n ≥ -2453698
 · rw [if_pos h, lastday_eq]
   simp only [Option.bind_some]
   congr 1
   apply decide_eq_decide.2
   unfold CanDay
   omega
 · rw [if_neg h, decide_eq_false (by unfold CanDay; omega)]
theorem march {n e c f k r : Int} (hc : 0 ≤ c ∧ c ≤ 3) (hf : 0 ≤ f ∧ f ≤ 24) (hk : 0 ≤ k ∧ k ≤ 3) (hn : n + 730425 = 146097 * e + 36524 * c + 1461 * f + 365 * k + r) :
 dby (400 * e + 100 * c + 4 * f + k + 1) = n + 306 - r := by unfold dby; omega
theorem march_leap {e c f : Int} (hc : 0 ≤ c ∧ c ≤ 3) (hf : 0 ≤ f ∧ f ≤ 24) (h : f < 24 ∨ c = 3) : lp (400 * e + 100 * c + 4 * f + 3 + 1) = 1 := by
 unfold lp; rw [if_pos (by omega)]
theorem parts_eq {n y m d : Int} (h : IsDate n y m d) (hb : -2000000000 ≤ n ∧ n ≤ 2000000000) : jD.f n = some (y, m, d) := by
 unfold jD.f
 rw [w64 (x := n + 730425) (by omega) (by omega), floor_eq _ _ (by unfold I64; omega) (by omega) (by omega)]
 simp only [Option.bind_some]
 have hn : n + 730425 = 146097 * ((n + 730425) / 146097) + (n + 730425) % 146097 := by omega
 have h0 : 0 ≤ (n + 730425) % 146097 ∧ (n + 730425) % 146097 < 146097 := by omega
 have he : -20000 ≤ (n + 730425) / 146097 ∧ (n + 730425) / 146097 ≤ 20000 := by omega
 generalize (n + 730425) / 146097 = e at *
 generalize (n + 730425) % 146097 = r0 at *
 rw [td_pos (a := r0) h0.1, w64 (x := r0 / 36524) (by omega) (by omega)]
 have hc : 0 ≤ mn (r0 / 36524) 3 ∧ mn (r0 / 36524) 3 ≤ 3 ∧ 0 ≤ r0 - mn (r0 / 36524) 3 * 36524 ∧ r0 - mn (r0 / 36524) 3 * 36524 ≤ 36524 ∧ (r0 - mn (r0 / 36524) 3 * 36524 = 36524 → mn (r0 / 36524) 3 = 3) := by
  unfold mn; split <;> omega
 generalize mn (r0 / 36524) 3 = c at *
 obtain ⟨hc0, hc1, hc2, hc3, hc4⟩ := hc
 rw [w64 (x := c * 36524) (by omega) (by omega), w64 (x := r0 - c * 36524) (by omega) (by omega)]
 obtain ⟨r1, hr1⟩ : ∃ r1, r1 = r0 - c * 36524 := ⟨_, rfl⟩
 rw [← hr1] at hc2 hc3 hc4 ⊢
 rw [td_pos (a := r1) hc2, w64 (x := r1 / 1461) (by omega) (by omega)]
 have hf : 0 ≤ r1 / 1461 ∧ r1 / 1461 ≤ 24 ∧ 0 ≤ r1 - r1 / 1461 * 1461 ∧ r1 - r1 / 1461 * 1461 ≤ 1460 ∧ (r1 - r1 / 1461 * 1461 = 1460 → r1 / 1461 < 24 ∨ c = 3) := by omega
 generalize r1 / 1461 = f at *
 obtain ⟨hf0, hf1, hf2, hf3, hf4⟩ := hf
 rw [w64 (x := f * 1461) (by omega) (by omega), w64 (x := r1 - f * 1461) (by omega) (by omega)]
 obtain ⟨r2, hr2⟩ : ∃ r2, r2 = r1 - f * 1461 := ⟨_, rfl⟩
 rw [← hr2] at hf2 hf3 hf4 ⊢
 rw [td_pos (a := r2) hf2, w64 (x := r2 / 365) (by omega) (by omega)]
 have hk : 0 ≤ mn (r2 / 365) 3 ∧ mn (r2 / 365) 3 ≤ 3 ∧ 0 ≤ r2 - mn (r2 / 365) 3 * 365 ∧ (r2 - mn (r2 / 365) 3 * 365 ≤ 364 ∨ r2 - mn (r2 / 365) 3 * 365 = 365 ∧ r2 = 1460 ∧ mn (r2 / 365) 3 = 3) := by
  unfold mn; split <;> omega
 generalize mn (r2 / 365) 3 = k at *
 obtain ⟨hk0, hk1, hk2, hk3⟩ := hk
 rw [w64 (x := k * 365) (by omega) (by omega), w64 (x := r2 - k * 365) (by omega) (by omega)]
 obtain ⟨r3, hr3⟩ : ∃ r3, r3 = r2 - k * 365 := ⟨_, rfl⟩
 rw [← hr3] at hk2 hk3 ⊢
 have hn' : n + 730425 = 146097 * e + 36524 * c + 1461 * f + 365 * k + r3 := by omega
 have hY := march ⟨hc0, hc1⟩ ⟨hf0, hf1⟩ ⟨hk0, hk1⟩ hn'
 have hL : r3 = 365 → lp (400 * e + 100 * c + 4 * f + k + 1) = 1 := by
  intro hr
  have e1 : k = 3 := by omega
  subst e1
  exact march_leap ⟨hc0, hc1⟩ ⟨hf0, hf1⟩ (by omega)
 have hlb := lp_01 (400 * e + 100 * c + 4 * f + k + 1)
 have hY2 := dby_succ (400 * e + 100 * c + 4 * f + k)
 have h365 : r3 ≤ 365 := by omega
 clear hr1 hr2 hr3 hn' hn hk3 hf4 hc4
 rw [w64 (x := 5 * r3) (by omega) (by omega), w64 (x := 5 * r3 + 2) (by omega) (by omega), td_pos (a := 5 * r3 + 2) (by omega), w64 (x := (5 * r3 + 2) / 153) (by omega) (by omega)]
 have hm : 0 ≤ (5 * r3 + 2) / 153 ∧ (5 * r3 + 2) / 153 ≤ 11 ∧ 153 * ((5 * r3 + 2) / 153) ≤ 5 * r3 + 2 ∧ 5 * r3 + 2 < 153 * ((5 * r3 + 2) / 153) + 153 := by omega
 generalize (5 * r3 + 2) / 153 = m' at *
 obtain ⟨hm0, hm1, hm2, hm3⟩ := hm
 rw [w64 (x := e * 400) (by omega) (by omega), w64 (x := c * 100) (by omega) (by omega), w64 (x := f * 4) (by omega) (by omega), w64 (x := e * 400 + c * 100) (by omega) (by omega), w64 (x := e * 400 + c * 100 + f * 4) (by omega) (by omega), w64 (x := e * 400 + c * 100 + f * 4 + k) (by omega) (by omega)]
 rw [w64 (x := 153 * m') (by omega) (by omega), w64 (x := 153 * m' + 2) (by omega) (by omega), td_pos (a := 153 * m' + 2) (by omega), w64 (x := (153 * m' + 2) / 5) (by omega) (by omega), w64 (x := r3 - (153 * m' + 2) / 5) (by omega) (by omega), w64 (x := r3 - (153 * m' + 2) / 5 + 1) (by omega) (by omega)]
 have ey : e * 400 + c * 100 + f * 4 + k = 400 * e + 100 * c + 4 * f + k := by omega
 rw [ey]
 have hyb : -9000000 ≤ 400 * e + 100 * c + 4 * f + k ∧ 400 * e + 100 * c + 4 * f + k ≤ 9000000 := by omega
 clear ey hc0 hc1 hc2 hc3 hf0 hf1 hf2 hf3 hk0 hk1 he h0
 generalize 400 * e + 100 * c + 4 * f + k = Y at *
 by_cases hge : m' ≥ 10
 · rw [if_pos hge, w64 (x := Y + 1) (by omega) (by omega), w64 (x := m' - 9) (by omega) (by omega)]
   have key : IsDate n (Y + 1) (m' - 9) (r3 - (153 * m' + 2) / 5 + 1) := by
    rcases (by omega : m' = 10 ∨ m' = 11) with e1 | e1 <;> subst e1
    · exact ⟨by omega, by omega, by omega, by simp [mlen]; omega, by simp [dnum, cum]; omega⟩
    · refine ⟨by omega, by omega, by omega, ?_, by simp [dnum, cum]; omega⟩
      simp only [mlen]
      by_cases g : r3 = 365
      · rw [hL g, g]; decide
      · rw [if_neg (by omega), if_pos (by omega)]; omega
   obtain ⟨rfl, rfl, rfl⟩ := h.unique key
   rfl
 · rw [if_neg hge, w64 (x := m' + 3) (by omega) (by omega)]
   have key : IsDate n Y (m' + 3) (r3 - (153 * m' + 2) / 5 + 1) := by
    rcases (by omega : m' = 0 ∨ m' = 1 ∨ m' = 2 ∨ m' = 3 ∨ m' = 4 ∨ m' = 5 ∨ m' = 6 ∨ m' = 7 ∨ m' = 8 ∨ m' = 9) with e1 | e1 | e1 | e1 | e1 | e1 | e1 | e1 | e1 | e1 <;> subst e1 <;>
     exact ⟨by omega, by omega, by omega, by simp [mlen]; omega, by simp [dnum, cum]; omega⟩
   obtain ⟨rfl, rfl, rfl⟩ := h.unique key
   rfl
theorem date_eq {n y m d : Int} (h : IsDate n y m d) (hc : CanDay n) : jJ.f n = some (y, m, d, 0) := by
 unfold jJ.f
 rw [can_eq]
 simp only [Option.bind_some, decide_eq_true_eq]
 have hc' := hc
 unfold CanDay at hc'
 rw [if_pos hc, parts_eq h (by omega)]
 rfl
theorem date_no {n : Int} (hc : ¬ CanDay n) : jJ.f n = some (0, 0, 0, 10) := by
 unfold jJ.f
 rw [can_eq]
 simp only [Option.bind_some, decide_eq_true_eq]
 rw [if_neg hc]
def wday (n : Int) : Int := (n + 6) % 7
theorem weekday_eq (n : Int) (h : I64 n) : civil_Weekday.f n = some (wday n) := by
 unfold civil_Weekday.f
 rw [floor_eq _ _ h (by omega) (by omega)]
 simp only [Option.bind_some]
 rw [w64 (by omega) (by omega), tm_pos (by omega)]
 congr 1
 unfold wday
 omega
def shY (y m k : Int) : Int := (12 * y + m - 1 + k) / 12
def shM (y m k : Int) : Int := (12 * y + m - 1 + k) % 12 + 1
def shD (y m d k : Int) : Int := if mlen (shY y m k) (shM y m k) < d then mlen (shY y m k) (shM y m k) else d
theorem shM_bd (y m k : Int) : 1 ≤ shM y m k ∧ shM y m k ≤ 12 := by unfold shM; omega
def MonthsOk (k : Int) : Prop := -3600000 ≤ k ∧ k ≤ 3600000
instance (k : Int) : Decidable (MonthsOk k) := inferInstanceAs (Decidable (_ ∧ _))
theorem shift_eq {n y m d k : Int} (h : IsDate n y m d) (hc : CanDay n) (hk : MonthsOk k) (r : Nat) :
 bH.f (r + 1) n k = some (if DateOk (shY y m k) (shM y m k) (shD y m d k) then (dnum (shY y m k) (shM y m k) (shD y m d k), 0) else (0, 10)) := by
 have hc' := hc
 unfold CanDay at hc'
 unfold MonthsOk at hk
 have hy := (can_of_year h).1 hc
 have h1 := h.m1
 have h2 := h.m12
 unfold bH.f
 rw [can_eq]
 simp only [Option.bind_some, decide_eq_true_eq]
 rw [if_pos hc, if_neg (by omega), decide_eq_false (by omega)]
 simp only [bH.j0]
 rw [if_neg (by simp), parts_eq h (by omega)]
 simp only [Option.bind_some]
 rw [w64 (x := 12 * y) (by omega) (by omega), w64 (x := 12 * y + m) (by omega) (by omega), w64 (x := 12 * y + m - 1) (by omega) (by omega), w64 (x := 12 * y + m - 1 + k) (by omega) (by omega), floor_eq _ _ (by unfold I64; omega) (by omega) (by omega)]
 simp only [Option.bind_some]
 rw [w64 (x := (12 * y + m - 1 + k) % 12 + 1) (by omega) (by omega), len_eq]
 simp only [Option.bind_some]
 rw [days_eq]
 simp only [Option.bind_some]
 have e : mn d (mlen ((12 * y + m - 1 + k) / 12) ((12 * y + m - 1 + k) % 12 + 1)) = shD y m d k := rfl
 rw [e]
 rfl
theorem shift_no {n k : Int} (h : ¬ CanDay n ∨ ¬ MonthsOk k) (r : Nat) : bH.f (r + 1) n k = some (0, 10) := by
 unfold bH.f
 rw [can_eq]
 simp only [Option.bind_some, decide_eq_true_eq]
 by_cases hc : CanDay n
 · have hk := h.resolve_left (fun f => f hc)
   unfold MonthsOk at hk
   rw [if_pos hc]
   by_cases h1 : k > 3600000
   · rw [if_pos h1]; simp only [bH.j0]; rfl
   · rw [if_neg h1, decide_eq_true (by omega)]; simp only [bH.j0]; rfl
 · rw [if_neg hc]; simp only [bH.j0]; rfl
end Go.Proofs.YtimgphlfaninnaaGreat.Civ
namespace Go.Proofs.YtimgphlfaninnaaGreat.P
open Go.RowKit Go.Proofs.YtimgphlfaninnaaGreatW.PrintWords Go.Proofs.YtimgphlfaninnaaGreatW.PrintLast Go.Proofs.YtimgphlfaninnaaGreatW.PrintMore
open Go.Proofs.YtimgphlfaninnaaGreat.A
 attribute [local go_sem] bR bQ jC jB bL bM bP bS
set_option linter.unusedVariables false
set_option linter.unusedSimpArgs false
def bV.f (k : Nat) (a0_0 : Int) (a0_1 : Int) (a1 : Int) : Option (Int × Int × Int) := (bD.f k a0_0 a0_1 a1).bind fun bt186 => (some (bt186.1, bt186.2.1, bt186.2.2))
theorem bV.mono : ∀ a0 a1 a2 k, LeO (bV.f k a0 a1 a2) (bV.f (k + 1) a0 a1 a2) := by
 intro a0 a1 a2 k
 unfold bV.f
 repeat' first
  | (with_reducible exact bD.mono _ _ _ _)
  | (with_reducible exact LeO.refl _)
  | (with_reducible exact LeO.none _)
  | (with_reducible refine LeO.ite ?_ ?_)
  | (with_reducible refine LeO.bind ?_ (fun _ => ?_))
  | exact bD.mono _ _ _ _
  | exact LeO.none _
  | refine LeO.ite ?_ ?_
  | refine LeO.bind ?_ (fun _ => ?_)
set_option maxRecDepth 100000 in
theorem bV.vc (k : Nat) (a0_0 : Int) (a0_1 : Int) (a1 : Int) (K : AV → Prop) : afv PA Tryz.prog (tab [(122, bD.con k), (123, bH.con k)]) noLoops 2 84 [.agg [.int .i64 a0_0, .int .i64 a0_1], .int .i64 a1] K = (brc (Option.isSome (bD.f k a0_0 a0_1 a1)) (∀ m0 : Int, m0 = Prod.fst (gd (bD.f k a0_0 a0_1 a1)) → ∀ m1 : Int, m1 = Prod.fst (Prod.snd (gd (bD.f k a0_0 a0_1 a1))) → ∀ m2 : Int, m2 = Prod.snd (Prod.snd (gd (bD.f k a0_0 a0_1 a1))) → K (AV.tup [.agg [.int .i64 m0, .int .i64 m1], .int .i64 m2])) False) := by kernel_rfl
set_option maxHeartbeats 1000000 in
set_option maxRecDepth 100000 in
theorem bV.calls (k : Nat) (a0_0 : Int) (a0_1 : Int) (a1 : Int) (r1 : Int) (r2 : Int) (r3 : Int) (w : World) (h : bV.f k a0_0 a0_1 a1 = some (r1, r2, r3)) :
 Calls Tryz.prog 84 #[.agg #[.int .i64 a0_0, .int .i64 a0_1], .int .i64 a1] w fun e w' => e = .returned (.tuple #[.agg #[.int .i64 r1, .int .i64 r2], .int .i64 r3]) ∧ Below w.heap.size w w' := by
 refine bW (A := [.agg #[.int .i64 a0_0, .int .i64 a0_1], .int .i64 a1]) (v := .tup [.agg [.int .i64 r1, .int .i64 r2], .int .i64 r3]) (kD (bD.cok k) (kD (bH.cok k) (bE))) ((bV.vc k a0_0 a0_1 a1 _).mpr ?_) (by simp [kG, kL, kM, kN, kZ, kV, jP]) (fun ρ V' hV => by simpa [kG, kL, kM, kN, kZ, kV, bK] using hV)
 unfold bV.f at h
 (try simp only [bne, Option.bind_eq_some_iff, bN] at h)
 (try simp only [bne, jS, wrap_i64])
 first
  | grind (splits := 60) [kH]
  | ((repeat' (first | (have or_ : Or _ _ := h; clear or_; rcases h with h | h) | (have or_ : Exists _ := h; clear or_; obtain ⟨_, h⟩ := h) | (have or_ : And _ _ := h; clear or_; obtain ⟨hq_, h⟩ := h))) <;> (try simp only [Option.some.injEq, Prod.mk.injEq, reduceCtorEq] at h) <;> (try subst_vars) <;> first | (simp_all [kH] <;> (try omega) <;> done) | grind (splits := 60) [kH])
  | (intros; subst_vars; simp_all [kH]; done)
noncomputable def bV.con (k : Nat) : Con
 | [.agg [.int .i64 a0_0, .int .i64 a0_1], .int .i64 a1] => some ((bV.f k a0_0 a0_1 a1).isSome, .tup [.agg [.int .i64 (gd (bV.f k a0_0 a0_1 a1)).1, .int .i64 (gd (bV.f k a0_0 a0_1 a1)).2.1], .int .i64 (gd (bV.f k a0_0 a0_1 a1)).2.2])
 | _ => none
set_option maxRecDepth 100000 in
theorem bV.cok (k : Nat) : COk Tryz.prog 84 (bV.con k) := by
 intro args p v hc hp w A hA
 unfold bV.con at hc
 split at hc
 · rename_i a0_0 a0_1 a1
   simp only [Option.some.injEq, Prod.mk.injEq] at hc
   obtain ⟨rfl, rfl⟩ := hc
   rcases hf : bV.f k a0_0 a0_1 a1 with _ | ⟨r1, r2, r3⟩
   · rw [hf] at hp; cases hp
   obtain rfl : A = [.agg #[.int .i64 a0_0, .int .i64 a0_1], .int .i64 a1] := by simpa [kG, kL, kM, kN, kZ, kV, jP] using hA
   exact kK (fn := Tryz.f84) Tryz.func84 (by kernel_rfl) (by kernel_rfl) (bV.calls _ _ _ _ _ _ _ w hf) (fun _ => by simp [kH, kG, kL, kM, kN, kZ, kV, bK]) (fun _ h => h)
 · cases hc
theorem bV.up {k : Nat} {a0_0 : Int} {a0_1 : Int} {a1 : Int} {r : Int × Int × Int} (h : bV.f k a0_0 a0_1 a1 = some r) : bV.f (k + 1) a0_0 a0_1 a1 = some r := bV.mono a0_0 a0_1 a1 k _ h
theorem bV.le {a0_0 : Int} {a0_1 : Int} {a1 : Int} {r : Int × Int × Int} {k n : Nat} (h : bV.f k a0_0 a0_1 a1 = some r) (hk : k ≤ n) : bV.f n a0_0 a0_1 a1 = some r := by
 induction hk with
 | refl => exact h
 | step _ ih => exact bV.up ih
def zL.f (a0 : Int) (a1 : Int) : Option (Int × Int) := if ((decide ((wrap64 (a0 + a1)) > a0)) != (decide (a1 > 0))) = true then (some (0, 10)) else (some (wrap64 (a0 + a1), 0))
set_option maxHeartbeats 8000000 in
set_option maxRecDepth 100000 in
theorem zL.calls (a0 : Int) (a1 : Int) (r1 : Int) (r2 : Int) (w : World) (h : zL.f a0 a1 = some (r1, r2)) :
 Calls Tryz.prog 67 #[.int .i64 a0, .int .i64 a1] w fun e w' => e = .returned (.tuple #[.int .i64 r1, .int .i64 r2]) ∧ Drawn0 w w' := by
 have H : (if ((decide ((wrap64 (a0 + a1)) > a0)) != (decide (a1 > 0))) = true then (some (0, 10)) else (some (wrap64 (a0 + a1), 0))) = some (r1, r2) := h
 clear h
 by_cases c3 : ((decide ((wrap64 (a0 + a1)) > a0)) != (decide (a1 > 0))) = true
 · rw [if_pos c3] at H
   have c3b0 : ((decide ((wrap64 (a0 + a1)) > a0)) != (decide (a1 > 0))) = true := c3
   (try (have c3b1 : decide ((decide ((wrap64 (a0 + a1)) > a0)) = (decide (a1 > 0))) = false := by simpa using c3))
   (try (have c3b2 : ((decide ((wrap64 (a0 + a1)) > a0)) == (decide (a1 > 0))) = false := by simpa using c3))
   (try (have c3b3 : ¬ ((decide ((wrap64 (a0 + a1)) > a0)) = (decide (a1 > 0))) := by simpa using c3))
   clear c3
   simp only [Option.some.injEq, Prod.mk.injEq] at H
   obtain ⟨rfl, rfl⟩ := H
   go_enter Tryz.func67, Tryz.ntmps67
   go_wp2
   go_ret2
   exact ⟨by first | rfl | (simp; done) | (simp [*]; done), by repeat (first | exact Drawn0.refl _ | apply Drawn0.step)⟩
 · rw [if_neg c3] at H
   have c3b0 : ((decide ((wrap64 (a0 + a1)) > a0)) != (decide (a1 > 0))) = false := by simpa using c3
   (try (have c3b1 : decide ((decide ((wrap64 (a0 + a1)) > a0)) = (decide (a1 > 0))) = true := by simpa using c3))
   (try (have c3b2 : ((decide ((wrap64 (a0 + a1)) > a0)) == (decide (a1 > 0))) = true := by simpa using c3))
   clear c3
   simp only [Option.some.injEq, Prod.mk.injEq] at H
   obtain ⟨rfl, rfl⟩ := H
   go_enter Tryz.func67, Tryz.ntmps67
   go_wp2
   go_ret2
   exact ⟨by first | rfl | (simp; done) | (simp [*]; done), by repeat (first | exact Drawn0.refl _ | apply Drawn0.step)⟩
noncomputable def zL.con : Con
 | [.int .i64 a0, .int .i64 a1] => some ((zL.f a0 a1).isSome, .tup [.int .i64 (gd (zL.f a0 a1)).1, .int .i64 (gd (zL.f a0 a1)).2])
 | _ => none
set_option maxRecDepth 100000 in
theorem zL.cok : COk Tryz.prog 67 (zL.con) := by
 intro args p v hc hp w A hA
 unfold zL.con at hc
 split at hc
 · rename_i a0 a1
   simp only [Option.some.injEq, Prod.mk.injEq] at hc
   obtain ⟨rfl, rfl⟩ := hc
   rcases hf : zL.f a0 a1 with _ | ⟨r1, r2⟩
   · rw [hf] at hp; cases hp
   obtain rfl : A = [.int .i64 a0, .int .i64 a1] := by simpa [kG, kL, kM, kN, kZ, kV, jP] using hA
   exact kK (fn := Tryz.f67) Tryz.func67 (by kernel_rfl) (by kernel_rfl) (zL.calls _ _ _ _ w hf) (fun _ => by simp [kH, kG, kL, kM, kN, kZ, kV, bK]) (fun _ h => h.below)
 · cases hc
def bO.f (a0_0 : Int) (a0_1 : Int)  (a2 : Int) : Option (Int × Int × Int) := (jQ.f a0_0 a0_1).bind fun t191 => (if t191 = true then (if a0_0 = 0 then ((zL.f a0_1 a2).bind fun bt192 => ((jF.f bt192.1 bt192.2).bind fun bt194 => (some (bt194.1, bt194.2.1, bt194.2.2)))) else (some (a0_0, a0_1, 0))) else (some (0, 0, 1)))
set_option maxRecDepth 100000 in
theorem bO.vc (a0_0 : Int) (a0_1 : Int) (a2 : Int) (K : AV → Prop) : afv PA Tryz.prog (tab [(124, jQ.con), (156, jF.con), (67, zL.con)]) noLoops 2 122 [.agg [.int .i64 a0_0, .int .i64 a0_1], .fn (.func 67) [] [], .int .i64 a2] K = (brc (Option.isSome (jQ.f a0_0 a0_1)) (∀ m0 : Bool, m0 = gd (jQ.f a0_0 a0_1) → brc (!m0) (K (AV.tup [.agg [.int .i64 0, .int .i64 0], .int .i64 1])) (brc (a0_0 != 0) (K (AV.tup [.agg [.int .i64 a0_0, .int .i64 a0_1], .int .i64 0])) (brc (Option.isSome (zL.f a0_1 a2)) (∀ m1 : Int, m1 = Prod.fst (gd (zL.f a0_1 a2)) → ∀ m2 : Int, m2 = Prod.snd (gd (zL.f a0_1 a2)) → brc (Option.isSome (jF.f m1 m2)) (∀ m3 : Int, m3 = Prod.fst (gd (jF.f m1 m2)) → ∀ m4 : Int, m4 = Prod.fst (Prod.snd (gd (jF.f m1 m2))) → ∀ m5 : Int, m5 = Prod.snd (Prod.snd (gd (jF.f m1 m2))) → K (AV.tup [.agg [.int .i64 m3, .int .i64 m4], .int .i64 m5])) False) False))) False) := by kernel_rfl
set_option maxHeartbeats 1000000 in
set_option maxRecDepth 100000 in
theorem bO.calls (a0_0 : Int) (a0_1 : Int)  (a2 : Int) (r1 : Int) (r2 : Int) (r3 : Int) (w : World) (h : bO.f a0_0 a0_1 a2 = some (r1, r2, r3)) :
 Calls Tryz.prog 122 #[.agg #[.int .i64 a0_0, .int .i64 a0_1], .func (.func 67) #[] #[], .int .i64 a2] w fun e w' => e = .returned (.tuple #[.agg #[.int .i64 r1, .int .i64 r2], .int .i64 r3]) ∧ Below w.heap.size w w' := by
 refine bW (A := [.agg #[.int .i64 a0_0, .int .i64 a0_1], .func (.func 67) #[] #[], .int .i64 a2]) (v := .tup [.agg [.int .i64 r1, .int .i64 r2], .int .i64 r3]) (kD (jQ.cok) (kD (jF.cok) (kD (zL.cok) (bE)))) ((bO.vc a0_0 a0_1 a2 _).mpr ?_) (by simp [kG, kL, kM, kN, kZ, kV, jP]) (fun ρ V' hV => by simpa [kG, kL, kM, kN, kZ, kV, bK] using hV)
 unfold bO.f at h
 (try simp only [bne, Option.bind_eq_some_iff, bN] at h)
 (try simp only [bne, jS, wrap_i64])
 first
  | grind (splits := 60) [kH]
  | ((repeat' (first | (have or_ : Or _ _ := h; clear or_; rcases h with h | h) | (have or_ : Exists _ := h; clear or_; obtain ⟨_, h⟩ := h) | (have or_ : And _ _ := h; clear or_; obtain ⟨hq_, h⟩ := h))) <;> (try simp only [Option.some.injEq, Prod.mk.injEq, reduceCtorEq] at h) <;> (try subst_vars) <;> first | (simp_all [kH] <;> (try omega) <;> done) | grind (splits := 60) [kH])
  | (intros; subst_vars; simp_all [kH]; done)
noncomputable def bO.con : Con
 | [.agg [.int .i64 a0_0, .int .i64 a0_1], .fn (.func 67) [] [], .int .i64 a2] => some ((bO.f a0_0 a0_1 a2).isSome, .tup [.agg [.int .i64 (gd (bO.f a0_0 a0_1 a2)).1, .int .i64 (gd (bO.f a0_0 a0_1 a2)).2.1], .int .i64 (gd (bO.f a0_0 a0_1 a2)).2.2])
 | _ => none
set_option maxRecDepth 100000 in
theorem bO.cok : COk Tryz.prog 122 (bO.con) := by
 intro args p v hc hp w A hA
 unfold bO.con at hc
 split at hc
 · rename_i a0_0 a0_1 a2
   simp only [Option.some.injEq, Prod.mk.injEq] at hc
   obtain ⟨rfl, rfl⟩ := hc
   rcases hf : bO.f a0_0 a0_1 a2 with _ | ⟨r1, r2, r3⟩
   · rw [hf] at hp; cases hp
   obtain rfl : A = [.agg #[.int .i64 a0_0, .int .i64 a0_1], .func (.func 67) #[] #[], .int .i64 a2] := by simpa [kG, kL, kM, kN, kZ, kV, jP] using hA
   exact kK (fn := Tryz.f122) Tryz.func122 (by kernel_rfl) (by kernel_rfl) (bO.calls _ _ _ _ _ _ w hf) (fun _ => by simp [kH, kG, kL, kM, kN, kZ, kV, bK]) (fun _ h => h)
 · cases hc
def zD.f (a0_0 : Int) (a0_1 : Int) (a1 : Int) : Option (Int × Int × Int) := (bO.f a0_0 a0_1 a1).bind fun bt199 => (some (bt199.1, bt199.2.1, bt199.2.2))
set_option maxRecDepth 100000 in
theorem zD.vc (a0_0 : Int) (a0_1 : Int) (a1 : Int) (K : AV → Prop) : afv PA Tryz.prog (tab [(67, zL.con), (122, bO.con)]) noLoops 2 85 [.agg [.int .i64 a0_0, .int .i64 a0_1], .int .i64 a1] K = (brc (Option.isSome (bO.f a0_0 a0_1 a1)) (∀ m0 : Int, m0 = Prod.fst (gd (bO.f a0_0 a0_1 a1)) → ∀ m1 : Int, m1 = Prod.fst (Prod.snd (gd (bO.f a0_0 a0_1 a1))) → ∀ m2 : Int, m2 = Prod.snd (Prod.snd (gd (bO.f a0_0 a0_1 a1))) → K (AV.tup [.agg [.int .i64 m0, .int .i64 m1], .int .i64 m2])) False) := by kernel_rfl
set_option maxHeartbeats 1000000 in
set_option maxRecDepth 100000 in
theorem zD.calls (a0_0 : Int) (a0_1 : Int) (a1 : Int) (r1 : Int) (r2 : Int) (r3 : Int) (w : World) (h : zD.f a0_0 a0_1 a1 = some (r1, r2, r3)) :
 Calls Tryz.prog 85 #[.agg #[.int .i64 a0_0, .int .i64 a0_1], .int .i64 a1] w fun e w' => e = .returned (.tuple #[.agg #[.int .i64 r1, .int .i64 r2], .int .i64 r3]) ∧ Below w.heap.size w w' := by
 refine bW (A := [.agg #[.int .i64 a0_0, .int .i64 a0_1], .int .i64 a1]) (v := .tup [.agg [.int .i64 r1, .int .i64 r2], .int .i64 r3]) (kD (zL.cok) (kD (bO.cok) (bE))) ((zD.vc a0_0 a0_1 a1 _).mpr ?_) (by simp [kG, kL, kM, kN, kZ, kV, jP]) (fun ρ V' hV => by simpa [kG, kL, kM, kN, kZ, kV, bK] using hV)
 unfold zD.f at h
 (try simp only [bne, Option.bind_eq_some_iff, bN] at h)
 (try simp only [bne, jS, wrap_i64])
 first
  | grind (splits := 60) [kH]
  | ((repeat' (first | (have or_ : Or _ _ := h; clear or_; rcases h with h | h) | (have or_ : Exists _ := h; clear or_; obtain ⟨_, h⟩ := h) | (have or_ : And _ _ := h; clear or_; obtain ⟨hq_, h⟩ := h))) <;> (try simp only [Option.some.injEq, Prod.mk.injEq, reduceCtorEq] at h) <;> (try subst_vars) <;> first | (simp_all [kH] <;> (try omega) <;> done) | grind (splits := 60) [kH])
  | (intros; subst_vars; simp_all [kH]; done)
noncomputable def zD.con : Con
 | [.agg [.int .i64 a0_0, .int .i64 a0_1], .int .i64 a1] => some ((zD.f a0_0 a0_1 a1).isSome, .tup [.agg [.int .i64 (gd (zD.f a0_0 a0_1 a1)).1, .int .i64 (gd (zD.f a0_0 a0_1 a1)).2.1], .int .i64 (gd (zD.f a0_0 a0_1 a1)).2.2])
 | _ => none
set_option maxRecDepth 100000 in
theorem zD.cok : COk Tryz.prog 85 (zD.con) := by
 intro args p v hc hp w A hA
 unfold zD.con at hc
 split at hc
 · rename_i a0_0 a0_1 a1
   simp only [Option.some.injEq, Prod.mk.injEq] at hc
   obtain ⟨rfl, rfl⟩ := hc
   rcases hf : zD.f a0_0 a0_1 a1 with _ | ⟨r1, r2, r3⟩
   · rw [hf] at hp; cases hp
   obtain rfl : A = [.agg #[.int .i64 a0_0, .int .i64 a0_1], .int .i64 a1] := by simpa [kG, kL, kM, kN, kZ, kV, jP] using hA
   exact kK (fn := Tryz.f85) Tryz.func85 (by kernel_rfl) (by kernel_rfl) (zD.calls _ _ _ _ _ _ w hf) (fun _ => by simp [kH, kG, kL, kM, kN, kZ, kV, bK]) (fun _ h => h)
 · cases hc
def jO.f (k : Nat) (a0 : Int) (a1 : Int) : Option (Int × Int) := (jE.f a0 a1).bind fun bt202 => ((bG.f k ((decide (a0 < 0)) != (decide (a1 < 0))) bt202.1 bt202.2).bind fun bt204 => (some (bt204.1, bt204.2)))
theorem jO.mono : ∀ a0 a1 k, LeO (jO.f k a0 a1) (jO.f (k + 1) a0 a1) := by
 intro a0 a1 k
 unfold jO.f
 repeat' first
  | (with_reducible exact bG.mono _ _ _ _)
  | (with_reducible exact LeO.refl _)
  | (with_reducible exact LeO.none _)
  | (with_reducible refine LeO.ite ?_ ?_)
  | (with_reducible refine LeO.bind ?_ (fun _ => ?_))
  | exact bG.mono _ _ _ _
  | exact LeO.none _
  | refine LeO.ite ?_ ?_
  | refine LeO.bind ?_ (fun _ => ?_)
set_option maxRecDepth 100000 in
theorem jO.vc (k : Nat) (a0 : Int) (a1 : Int) (K : AV → Prop) : afv PA Tryz.prog (tab [(116, bG.con k), (117, jE.con)]) noLoops 2 78 [.int .i64 a0, .int .i64 a1] K = (brc (Option.isSome (jE.f a0 a1)) (∀ m0 : Int, m0 = Prod.fst (gd (jE.f a0 a1)) → ∀ m1 : Int, m1 = Prod.snd (gd (jE.f a0 a1)) → brc (Option.isSome (bG.f k (!decide (a0 < 0) == decide (a1 < 0)) m0 m1)) (∀ m2 : Int, m2 = Prod.fst (gd (bG.f k (!decide (a0 < 0) == decide (a1 < 0)) m0 m1)) → ∀ m3 : Int, m3 = Prod.snd (gd (bG.f k (!decide (a0 < 0) == decide (a1 < 0)) m0 m1)) → K (AV.tup [.int .i64 m2, .int .i64 m3])) False) False) := by kernel_rfl
set_option maxHeartbeats 1000000 in
set_option maxRecDepth 100000 in
theorem jO.calls (k : Nat) (a0 : Int) (a1 : Int) (r1 : Int) (r2 : Int) (w : World) (h : jO.f k a0 a1 = some (r1, r2)) :
 Calls Tryz.prog 78 #[.int .i64 a0, .int .i64 a1] w fun e w' => e = .returned (.tuple #[.int .i64 r1, .int .i64 r2]) ∧ Below w.heap.size w w' := by
 refine bW (A := [.int .i64 a0, .int .i64 a1]) (v := .tup [.int .i64 r1, .int .i64 r2]) (kD (bG.cok k) (kD (jE.cok) (bE))) ((jO.vc k a0 a1 _).mpr ?_) (by simp [kG, kL, kM, kN, kZ, kV, jP]) (fun ρ V' hV => by simpa [kG, kL, kM, kN, kZ, kV, bK] using hV)
 unfold jO.f at h
 (try simp only [bne, Option.bind_eq_some_iff, bN] at h)
 (try simp only [bne, jS, wrap_i64])
 first
  | grind (splits := 60) [kH]
  | ((repeat' (first | (have or_ : Or _ _ := h; clear or_; rcases h with h | h) | (have or_ : Exists _ := h; clear or_; obtain ⟨_, h⟩ := h) | (have or_ : And _ _ := h; clear or_; obtain ⟨hq_, h⟩ := h))) <;> (try simp only [Option.some.injEq, Prod.mk.injEq, reduceCtorEq] at h) <;> (try subst_vars) <;> first | (simp_all [kH] <;> (try omega) <;> rcases hb0 : decide (a0 < 0) with _ | _ <;> rcases hb1 : decide (a1 < 0) with _ | _ <;> simp_all [kH] <;> done) | grind (splits := 60) [kH])
  | (intros; subst_vars; simp_all [kH]; done)
noncomputable def jO.con (k : Nat) : Con
 | [.int .i64 a0, .int .i64 a1] => some ((jO.f k a0 a1).isSome, .tup [.int .i64 (gd (jO.f k a0 a1)).1, .int .i64 (gd (jO.f k a0 a1)).2])
 | _ => none
set_option maxRecDepth 100000 in
theorem jO.cok (k : Nat) : COk Tryz.prog 78 (jO.con k) := by
 intro args p v hc hp w A hA
 unfold jO.con at hc
 split at hc
 · rename_i a0 a1
   simp only [Option.some.injEq, Prod.mk.injEq] at hc
   obtain ⟨rfl, rfl⟩ := hc
   rcases hf : jO.f k a0 a1 with _ | ⟨r1, r2⟩
   · rw [hf] at hp; cases hp
   obtain rfl : A = [.int .i64 a0, .int .i64 a1] := by simpa [kG, kL, kM, kN, kZ, kV, jP] using hA
   exact kK (fn := Tryz.f78) Tryz.func78 (by kernel_rfl) (by kernel_rfl) (jO.calls _ _ _ _ _ w hf) (fun _ => by simp [kH, kG, kL, kM, kN, kZ, kV, bK]) (fun _ h => h)
 · cases hc
theorem jO.up {k : Nat} {a0 : Int} {a1 : Int} {r : Int × Int} (h : jO.f k a0 a1 = some r) : jO.f (k + 1) a0 a1 = some r := jO.mono a0 a1 k _ h
theorem jO.le {a0 : Int} {a1 : Int} {r : Int × Int} {k n : Nat} (h : jO.f k a0 a1 = some r) (hk : k ≤ n) : jO.f n a0 a1 = some r := by
 induction hk with
 | refl => exact h
 | step _ ih => exact jO.up ih
def num_Sub.f (a0 : Int) (a1 : Int) : Option (Int × Int) := if ((decide ((wrap64 (a0 - a1)) < a0)) != (decide (a1 > 0))) = true then (some (0, 10)) else (some (wrap64 (a0 - a1), 0))
set_option maxHeartbeats 8000000 in
set_option maxRecDepth 100000 in
theorem num_Sub.calls (a0 : Int) (a1 : Int) (r1 : Int) (r2 : Int) (w : World) (h : num_Sub.f a0 a1 = some (r1, r2)) :
 Calls Tryz.prog 53 #[.int .i64 a0, .int .i64 a1] w fun e w' => e = .returned (.tuple #[.int .i64 r1, .int .i64 r2]) ∧ Drawn0 w w' := by
 have H : (if ((decide ((wrap64 (a0 - a1)) < a0)) != (decide (a1 > 0))) = true then (some (0, 10)) else (some (wrap64 (a0 - a1), 0))) = some (r1, r2) := h
 clear h
 by_cases c3 : ((decide ((wrap64 (a0 - a1)) < a0)) != (decide (a1 > 0))) = true
 · rw [if_pos c3] at H
   have c3b0 : ((decide ((wrap64 (a0 - a1)) < a0)) != (decide (a1 > 0))) = true := c3
   (try (have c3b1 : decide ((decide ((wrap64 (a0 - a1)) < a0)) = (decide (a1 > 0))) = false := by simpa using c3))
   (try (have c3b2 : ((decide ((wrap64 (a0 - a1)) < a0)) == (decide (a1 > 0))) = false := by simpa using c3))
   (try (have c3b3 : ¬ ((decide ((wrap64 (a0 - a1)) < a0)) = (decide (a1 > 0))) := by simpa using c3))
   clear c3
   simp only [Option.some.injEq, Prod.mk.injEq] at H
   obtain ⟨rfl, rfl⟩ := H
   go_enter Tryz.func53, Tryz.ntmps53
   go_wp2
   go_ret2
   exact ⟨by first | rfl | (simp; done) | (simp [*]; done), by repeat (first | exact Drawn0.refl _ | apply Drawn0.step)⟩
 · rw [if_neg c3] at H
   have c3b0 : ((decide ((wrap64 (a0 - a1)) < a0)) != (decide (a1 > 0))) = false := by simpa using c3
   (try (have c3b1 : decide ((decide ((wrap64 (a0 - a1)) < a0)) = (decide (a1 > 0))) = true := by simpa using c3))
   (try (have c3b2 : ((decide ((wrap64 (a0 - a1)) < a0)) == (decide (a1 > 0))) = true := by simpa using c3))
   clear c3
   simp only [Option.some.injEq, Prod.mk.injEq] at H
   obtain ⟨rfl, rfl⟩ := H
   go_enter Tryz.func53, Tryz.ntmps53
   go_wp2
   go_ret2
   exact ⟨by first | rfl | (simp; done) | (simp [*]; done), by repeat (first | exact Drawn0.refl _ | apply Drawn0.step)⟩
def num_Neg.f (a0 : Int) : Option (Int × Int) := (num_Sub.f 0 a0).bind fun bt278 => (some (bt278.1, bt278.2))
set_option maxHeartbeats 8000000 in
set_option maxRecDepth 100000 in
theorem num_Neg.calls (a0 : Int) (r1 : Int) (r2 : Int) (w : World) (h : num_Neg.f a0 = some (r1, r2)) :
 Calls Tryz.prog 65 #[.int .i64 a0] w fun e w' => e = .returned (.tuple #[.int .i64 r1, .int .i64 r2]) ∧ Drawn0 w w' := by
 have H : ((num_Sub.f 0 a0).bind fun bt278 => (some (bt278.1, bt278.2))) = some (r1, r2) := h
 clear h
 replace H := Option.bind_eq_some_iff.mp H
 obtain ⟨⟨t278, t279⟩, A20, H⟩ := H
 replace H : (some (t278, t279)) = some (r1, r2) := H
 have A2 := Aside0.mk A20
 clear A20
 simp only [Option.some.injEq, Prod.mk.injEq] at H
 obtain ⟨rfl, rfl⟩ := H
 go_enter Tryz.func65, Tryz.ntmps65
 go_wp2_with (first | ((with_reducible refine bC (f := 53) rfl ?_); refine jH (some 5) rfl rfl Tryz.func53 (by kernel_rfl) rfl #[.int .i64 0, .int .i64 a0] rfl (by (try simp only [List.map_toArray, List.map_cons, List.map_nil]); first | done | rfl | (simp only [List.length_drop, List.length_take]; rfl)) ?_; (with_reducible refine (num_Sub.calls 0 a0 t278 t279 _ A2.out).mono ?_); rintro e w' ⟨rfl, ⟨nd, rfl⟩⟩; refine ⟨_, rfl, ?_⟩))
 go_ret2
 exact ⟨by first | rfl | (simp; done) | (simp [*]; done), by repeat (first | exact Drawn0.refl _ | apply Drawn0.step)⟩
noncomputable def num_Neg.con : Con
 | [.int .i64 a0] => some ((num_Neg.f a0).isSome, .tup [.int .i64 (gd (num_Neg.f a0)).1, .int .i64 (gd (num_Neg.f a0)).2])
 | _ => none
set_option maxRecDepth 100000 in
theorem num_Neg.cok : COk Tryz.prog 65 (num_Neg.con) := by
 intro args p v hc hp w A hA
 unfold num_Neg.con at hc
 split at hc
 · rename_i a0
   simp only [Option.some.injEq, Prod.mk.injEq] at hc
   obtain ⟨rfl, rfl⟩ := hc
   rcases hf : num_Neg.f a0 with _ | ⟨r1, r2⟩
   · rw [hf] at hp; cases hp
   obtain rfl : A = [.int .i64 a0] := by simpa [kG, kL, kM, kN, kZ, kV, jP] using hA
   exact kK (fn := Tryz.f65) Tryz.func65 (by kernel_rfl) (by kernel_rfl) (num_Neg.calls _ _ _ w hf) (fun _ => by simp [kH, kG, kL, kM, kN, kZ, kV, bK]) (fun _ h => h.below)
 · cases hc
def kU.f (a0 : Int) (a1 : Int) : Option (Int) := if a1 = 0 then (none) else (if (Int.tmod a0 a1) < 0 then (some (wrap64 ((Int.tmod a0 a1) + a1))) else (some (Int.tmod a0 a1)))
set_option maxHeartbeats 8000000 in
set_option maxRecDepth 100000 in
theorem kU.calls (a0 : Int) (a1 : Int) (r : Int) (w : World) (h : kU.f a0 a1 = some r) :
 Calls Tryz.prog 141 #[.int .i64 a0, .int .i64 a1] w fun e w' => e = .returned (.int .i64 r) ∧ Drawn0 w w' := by
 have H : (if a1 = 0 then (none) else (if (Int.tmod a0 a1) < 0 then (some (wrap64 ((Int.tmod a0 a1) + a1))) else (some (Int.tmod a0 a1)))) = some r := h
 clear h
 by_cases c3 : a1 = 0
 · rw [if_pos c3] at H
   exact absurd H (by simp)
 · rw [if_neg c3] at H
   have c3b0 : (a1 == 0) = false := beq_eq_false_iff_ne.mpr c3
   have c3b1 : (a1 != 0) = true := bne_iff_ne.mpr c3
   by_cases c4 : (Int.tmod a0 a1) < 0
   · rw [if_pos c4] at H
     have c4b0 : decide ((Int.tmod a0 a1) < 0) = true := decide_eq_true c4
     clear c4
     obtain rfl := Option.some.inj H
     go_enter Tryz.func141, Tryz.ntmps141
     go_wp2
     go_ret
     exact ⟨by first | rfl | (simp; done) | (simp [*]; done), by repeat (first | exact Drawn0.refl _ | apply Drawn0.step)⟩
   · rw [if_neg c4] at H
     have c4b0 : decide ((Int.tmod a0 a1) < 0) = false := decide_eq_false c4
     clear c4
     obtain rfl := Option.some.inj H
     go_enter Tryz.func141, Tryz.ntmps141
     go_wp2
     go_ret
     exact ⟨by first | rfl | (simp; done) | (simp [*]; done), by repeat (first | exact Drawn0.refl _ | apply Drawn0.step)⟩
def bX.f (a0 : Int) : Option (Bool) := (kU.f a0 4).bind fun t324 => (if t324 = 0 then ((kU.f a0 100).bind fun t325 => (if t325 = 0 then ((kU.f a0 400).bind fun t326 => (some (t326 == 0))) else (some true))) else (some false))
set_option maxHeartbeats 8000000 in
set_option maxRecDepth 100000 in
theorem bX.calls (a0 : Int) (r : Bool) (w : World) (h : bX.f a0 = some r) :
 Calls Tryz.prog 142 #[.int .i64 a0] w fun e w' => e = .returned (.bool r) ∧ Drawn0 w w' := by
 have H : ((kU.f a0 4).bind fun t324 => (if t324 = 0 then ((kU.f a0 100).bind fun t325 => (if t325 = 0 then ((kU.f a0 400).bind fun t326 => (some (t326 == 0))) else (some true))) else (some false))) = some r := h
 clear h
 replace H := Option.bind_eq_some_iff.mp H
 obtain ⟨t324, A20, H⟩ := H
 replace H : (if t324 = 0 then ((kU.f a0 100).bind fun t325 => (if t325 = 0 then ((kU.f a0 400).bind fun t326 => (some (t326 == 0))) else (some true))) else (some false)) = some r := H
 have A2 := Aside0.mk A20
 clear A20
 by_cases c3 : t324 = 0
 · rw [if_pos c3] at H
   have c3b0 : (t324 == 0) = true := beq_iff_eq.mpr c3
   have c3b1 : (t324 != 0) = false := bne_eq_false_iff_eq.mpr c3
   clear c3
   replace H := Option.bind_eq_some_iff.mp H
   obtain ⟨t325, A40, H⟩ := H
   replace H : (if t325 = 0 then ((kU.f a0 400).bind fun t326 => (some (t326 == 0))) else (some true)) = some r := H
   have A4 := Aside0.mk A40
   clear A40
   by_cases c5 : t325 = 0
   · rw [if_pos c5] at H
     have c5b0 : (t325 == 0) = true := beq_iff_eq.mpr c5
     have c5b1 : (t325 != 0) = false := bne_eq_false_iff_eq.mpr c5
     clear c5
     replace H := Option.bind_eq_some_iff.mp H
     obtain ⟨t326, A60, H⟩ := H
     replace H : (some (t326 == 0)) = some r := H
     have A6 := Aside0.mk A60
     clear A60
     obtain rfl := Option.some.inj H
     go_enter Tryz.func142, Tryz.ntmps142
     go_wp2_with (first | ((with_reducible refine bC (f := 141) rfl ?_); refine jH (some 4) rfl rfl Tryz.func141 (by kernel_rfl) rfl #[.int .i64 a0, .int .i64 4] rfl (by (try simp only [List.map_toArray, List.map_cons, List.map_nil]); first | done | rfl | (simp only [List.length_drop, List.length_take]; rfl)) ?_; (with_reducible refine (kU.calls a0 4 t324 _ A2.out).mono ?_); rintro e w' ⟨rfl, ⟨nd, rfl⟩⟩; refine ⟨_, rfl, ?_⟩) | (go_at_call 141; (with_reducible refine (kU.calls a0 100 t325 _ A4.out).mono ?_); rintro e w' ⟨rfl, ⟨nd, rfl⟩⟩) | (go_at_call 141; (with_reducible refine (kU.calls a0 400 t326 _ A6.out).mono ?_); rintro e w' ⟨rfl, ⟨nd, rfl⟩⟩))
     go_ret
     exact ⟨by first | rfl | (simp; done) | (simp [*]; done), by repeat (first | exact Drawn0.refl _ | apply Drawn0.step)⟩
   · rw [if_neg c5] at H
     have c5b0 : (t325 == 0) = false := beq_eq_false_iff_ne.mpr c5
     have c5b1 : (t325 != 0) = true := bne_iff_ne.mpr c5
     obtain rfl := Option.some.inj H
     go_enter Tryz.func142, Tryz.ntmps142
     go_wp2_with (first | ((with_reducible refine bC (f := 141) rfl ?_); refine jH (some 4) rfl rfl Tryz.func141 (by kernel_rfl) rfl #[.int .i64 a0, .int .i64 4] rfl (by (try simp only [List.map_toArray, List.map_cons, List.map_nil]); first | done | rfl | (simp only [List.length_drop, List.length_take]; rfl)) ?_; (with_reducible refine (kU.calls a0 4 t324 _ A2.out).mono ?_); rintro e w' ⟨rfl, ⟨nd, rfl⟩⟩; refine ⟨_, rfl, ?_⟩) | (go_at_call 141; (with_reducible refine (kU.calls a0 100 t325 _ A4.out).mono ?_); rintro e w' ⟨rfl, ⟨nd, rfl⟩⟩))
     go_ret
     exact ⟨by first | rfl | (simp; done) | (simp [*]; done), by repeat (first | exact Drawn0.refl _ | apply Drawn0.step)⟩
 · rw [if_neg c3] at H
   have c3b0 : (t324 == 0) = false := beq_eq_false_iff_ne.mpr c3
   have c3b1 : (t324 != 0) = true := bne_iff_ne.mpr c3
   obtain rfl := Option.some.inj H
   go_enter Tryz.func142, Tryz.ntmps142
   go_wp2_with (first | ((with_reducible refine bC (f := 141) rfl ?_); refine jH (some 4) rfl rfl Tryz.func141 (by kernel_rfl) rfl #[.int .i64 a0, .int .i64 4] rfl (by (try simp only [List.map_toArray, List.map_cons, List.map_nil]); first | done | rfl | (simp only [List.length_drop, List.length_take]; rfl)) ?_; (with_reducible refine (kU.calls a0 4 t324 _ A2.out).mono ?_); rintro e w' ⟨rfl, ⟨nd, rfl⟩⟩; refine ⟨_, rfl, ?_⟩))
   go_ret
   exact ⟨by first | rfl | (simp; done) | (simp [*]; done), by repeat (first | exact Drawn0.refl _ | apply Drawn0.step)⟩
mutual
def kA.j0 : Nat → Int → Int → Bool → Option (Int)
 | 0, _, _, _ => none
 | k + 1, x0, x5, x6 => if x6 = true then (some 31) else (if x5 = 4 then (kA.j1 k x0 x5 (x5 == 4)) else (if x5 = 6 then (kA.j1 k x0 x5 (x5 == 6)) else (if x5 = 9 then (kA.j1 k x0 x5 (x5 == 9)) else (kA.j1 k x0 x5 (x5 == 11)))))
def kA.j1 : Nat → Int → Int → Bool → Option (Int)
 | 0, _, _, _ => none
 | k + 1, x0, x5, x14 => if x14 = true then (some 30) else (if x5 = 2 then ((bX.f x0).bind fun t327 => (if t327 = true then (some 29) else (some 28))) else (some 0))
end
def kA.f (k : Nat) (a0 : Int) (a1 : Int) : Option (Int) := if a1 = 1 then (kA.j0 k a0 a1 (a1 == 1)) else (if a1 = 3 then (kA.j0 k a0 a1 (a1 == 3)) else (if a1 = 5 then (kA.j0 k a0 a1 (a1 == 5)) else (if a1 = 7 then (kA.j0 k a0 a1 (a1 == 7)) else (if a1 = 8 then (kA.j0 k a0 a1 (a1 == 8)) else (if a1 = 10 then (kA.j0 k a0 a1 (a1 == 10)) else (kA.j0 k a0 a1 (a1 == 12)))))))
theorem kA.mono_l : ∀ k, (∀ y0 y1 y2, LeO (kA.j0 k y0 y1 y2) (kA.j0 (k + 1) y0 y1 y2)) ∧ (∀ y0 y1 y2, LeO (kA.j1 k y0 y1 y2) (kA.j1 (k + 1) y0 y1 y2))
 | 0 => ⟨fun _ _ _ r h => by simp [kA.j0] at h, fun _ _ _ r h => by simp [kA.j1] at h⟩
 | k + 1 => by
  obtain ⟨ih0, ih1⟩ := kA.mono_l k
  refine ⟨?_, ?_⟩
  · intro y0 y1 y2
    unfold kA.j0
    repeat' first
    | (with_reducible exact ih0 _ _ _)
    | (with_reducible exact ih1 _ _ _)
    | (with_reducible exact LeO.refl _)
    | (with_reducible exact LeO.none _)
    | (with_reducible refine LeO.ite ?_ ?_)
    | (with_reducible refine LeO.bind ?_ (fun _ => ?_))
    | exact ih0 _ _ _
    | exact ih1 _ _ _
    | exact LeO.none _
    | refine LeO.ite ?_ ?_
    | refine LeO.bind ?_ (fun _ => ?_)
  · intro y0 y1 y2
    unfold kA.j1
    repeat' first
    | (with_reducible exact ih0 _ _ _)
    | (with_reducible exact ih1 _ _ _)
    | (with_reducible exact LeO.refl _)
    | (with_reducible exact LeO.none _)
    | (with_reducible refine LeO.ite ?_ ?_)
    | (with_reducible refine LeO.bind ?_ (fun _ => ?_))
    | exact ih0 _ _ _
    | exact ih1 _ _ _
    | exact LeO.none _
    | refine LeO.ite ?_ ?_
    | refine LeO.bind ?_ (fun _ => ?_)
theorem kA.mono : ∀ a0 a1 k, LeO (kA.f k a0 a1) (kA.f (k + 1) a0 a1) := by
 intro a0 a1 k
 obtain ⟨ih0, ih1⟩ := kA.mono_l k
 unfold kA.f
 repeat' first
  | (with_reducible exact ih0 _ _ _)
  | (with_reducible exact ih1 _ _ _)
  | (with_reducible exact LeO.refl _)
  | (with_reducible exact LeO.none _)
  | (with_reducible refine LeO.ite ?_ ?_)
  | (with_reducible refine LeO.bind ?_ (fun _ => ?_))
  | exact ih0 _ _ _
  | exact ih1 _ _ _
  | exact LeO.none _
  | refine LeO.ite ?_ ?_
  | refine LeO.bind ?_ (fun _ => ?_)
set_option maxHeartbeats 8000000 in
set_option maxRecDepth 100000 in
theorem kA.calls (k : Nat) (a0 : Int) (a1 : Int) (r : Int) (w : World) (h : kA.f k a0 a1 = some r) :
 Calls Tryz.prog 143 #[.int .i64 a0, .int .i64 a1] w fun e w' => e = .returned (.int .i64 r) ∧ Drawn0 w w' := by
 have H : (if a1 = 1 then (kA.j0 k a0 a1 (a1 == 1)) else (if a1 = 3 then (kA.j0 k a0 a1 (a1 == 3)) else (if a1 = 5 then (kA.j0 k a0 a1 (a1 == 5)) else (if a1 = 7 then (kA.j0 k a0 a1 (a1 == 7)) else (if a1 = 8 then (kA.j0 k a0 a1 (a1 == 8)) else (if a1 = 10 then (kA.j0 k a0 a1 (a1 == 10)) else (kA.j0 k a0 a1 (a1 == 12)))))))) = some r := h
 clear h
 have HC3 := Aside0.mk H
 clear H
 go_enter Tryz.func143, Tryz.ntmps143
 go_upto_if 6 with (fail)
 go_cut [6] (fun v6 wc => ∃ (kq : Nat) (x6_2 : Bool), v6 = .bool x6_2 ∧ Aside0 (kA.j0 kq a0 a1 x6_2 = some r) ∧ Aside0 (kq ≤ k) ∧ Drawn0 w wc)
 case first =>
  have H := HC3.out
  clear HC3
  by_cases c4 : a1 = 1
  · rw [if_pos c4] at H
    have c4b0 : (a1 == 1) = true := beq_iff_eq.mpr c4
    have c4b1 : (a1 != 1) = false := bne_eq_false_iff_eq.mpr c4
    clear c4
    (first | rw [c4b0] | (simp only [i64_w, i32_w]; rw [c4b0]) | skip)
    have H' := Aside0.mk H
    clear H
    go_wp2
    go_meet
    case rel => exact ⟨_, ((a1 == 1)), (by first | rfl | (simp; done) | (simp [*]; done)), H', ⟨by first | omega | exact Nat.le_refl _⟩, by repeat (first | exact Drawn0.refl _ | apply Drawn0.step)⟩
  · rw [if_neg c4] at H
    have c4b0 : (a1 == 1) = false := beq_eq_false_iff_ne.mpr c4
    have c4b1 : (a1 != 1) = true := bne_iff_ne.mpr c4
    (first | rw [c4b0] | (simp only [i64_w, i32_w]; rw [c4b0]) | skip)
    by_cases c5 : a1 = 3
    · rw [if_pos c5] at H
      have c5b0 : (a1 == 3) = true := beq_iff_eq.mpr c5
      have c5b1 : (a1 != 3) = false := bne_eq_false_iff_eq.mpr c5
      clear c5
      have H' := Aside0.mk H
      clear H
      go_wp2
      go_meet
      case rel => exact ⟨_, ((a1 == 3)), (by first | rfl | (simp; done) | (simp [*]; done)), H', ⟨by first | omega | exact Nat.le_refl _⟩, by repeat (first | exact Drawn0.refl _ | apply Drawn0.step)⟩
    · rw [if_neg c5] at H
      have c5b0 : (a1 == 3) = false := beq_eq_false_iff_ne.mpr c5
      have c5b1 : (a1 != 3) = true := bne_iff_ne.mpr c5
      by_cases c6 : a1 = 5
      · rw [if_pos c6] at H
        have c6b0 : (a1 == 5) = true := beq_iff_eq.mpr c6
        have c6b1 : (a1 != 5) = false := bne_eq_false_iff_eq.mpr c6
        clear c6
        have H' := Aside0.mk H
        clear H
        go_wp2
        go_meet
        case rel => exact ⟨_, ((a1 == 5)), (by first | rfl | (simp; done) | (simp [*]; done)), H', ⟨by first | omega | exact Nat.le_refl _⟩, by repeat (first | exact Drawn0.refl _ | apply Drawn0.step)⟩
      · rw [if_neg c6] at H
        have c6b0 : (a1 == 5) = false := beq_eq_false_iff_ne.mpr c6
        have c6b1 : (a1 != 5) = true := bne_iff_ne.mpr c6
        by_cases c7 : a1 = 7
        · rw [if_pos c7] at H
          have c7b0 : (a1 == 7) = true := beq_iff_eq.mpr c7
          have c7b1 : (a1 != 7) = false := bne_eq_false_iff_eq.mpr c7
          clear c7
          have H' := Aside0.mk H
          clear H
          go_wp2
          go_meet
          case rel => exact ⟨_, ((a1 == 7)), (by first | rfl | (simp; done) | (simp [*]; done)), H', ⟨by first | omega | exact Nat.le_refl _⟩, by repeat (first | exact Drawn0.refl _ | apply Drawn0.step)⟩
        · rw [if_neg c7] at H
          have c7b0 : (a1 == 7) = false := beq_eq_false_iff_ne.mpr c7
          have c7b1 : (a1 != 7) = true := bne_iff_ne.mpr c7
          by_cases c8 : a1 = 8
          · rw [if_pos c8] at H
            have c8b0 : (a1 == 8) = true := beq_iff_eq.mpr c8
            have c8b1 : (a1 != 8) = false := bne_eq_false_iff_eq.mpr c8
            clear c8
            have H' := Aside0.mk H
            clear H
            go_wp2
            go_meet
            case rel => exact ⟨_, ((a1 == 8)), (by first | rfl | (simp; done) | (simp [*]; done)), H', ⟨by first | omega | exact Nat.le_refl _⟩, by repeat (first | exact Drawn0.refl _ | apply Drawn0.step)⟩
          · rw [if_neg c8] at H
            have c8b0 : (a1 == 8) = false := beq_eq_false_iff_ne.mpr c8
            have c8b1 : (a1 != 8) = true := bne_iff_ne.mpr c8
            by_cases c9 : a1 = 10
            · rw [if_pos c9] at H
              have c9b0 : (a1 == 10) = true := beq_iff_eq.mpr c9
              have c9b1 : (a1 != 10) = false := bne_eq_false_iff_eq.mpr c9
              clear c9
              have H' := Aside0.mk H
              clear H
              go_wp2
              go_meet
              case rel => exact ⟨_, ((a1 == 10)), (by first | rfl | (simp; done) | (simp [*]; done)), H', ⟨by first | omega | exact Nat.le_refl _⟩, by repeat (first | exact Drawn0.refl _ | apply Drawn0.step)⟩
            · rw [if_neg c9] at H
              have c9b0 : (a1 == 10) = false := beq_eq_false_iff_ne.mpr c9
              have c9b1 : (a1 != 10) = true := bne_iff_ne.mpr c9
              have H' := Aside0.mk H
              clear H
              go_wp2
              go_meet
              case rel => exact ⟨_, ((a1 == 12)), (by first | rfl | (simp; done) | (simp [*]; done)), H', ⟨by first | omega | exact Nat.le_refl _⟩, by repeat (first | exact Drawn0.refl _ | apply Drawn0.step)⟩
 case rest =>
  clear HC3
  try clear c1
  try clear p2
  try clear c4
  try clear c4b0
  try clear c4b1
  try clear c5
  try clear c5b0
  try clear c5b1
  try clear c6
  try clear c6b0
  try clear c6b1
  try clear c7
  try clear c7b0
  try clear c7b1
  try clear c8
  try clear c8b0
  try clear c8b1
  try clear c9
  try clear c9b0
  try clear c9b1
  obtain ⟨kq, x6_2, rfl, HA, HJ2, ⟨mc2, rfl⟩⟩ := hcut
  cases kq with
  | zero => exact absurd HA.out (by simp [kA.j0])
  | succ kj2 =>
   have H := HA.out
   clear HA
   simp only [kA.j0] at H
   by_cases c10 : x6_2 = true
   · subst c10
     have H1 : (some 31) = some r := by rw [if_pos rfl] at H; exact H
     clear H
     have H := H1
     clear H1
     obtain rfl := Option.some.inj H
     go_wp2
     go_ret
     exact ⟨by first | rfl | (simp; done) | (simp [*]; done), by repeat (first | exact Drawn0.refl _ | apply Drawn0.step)⟩
   · replace c10 := Bool.eq_false_iff.mpr c10
     subst c10
     have H1 : (if a1 = 4 then (kA.j1 kj2 a0 a1 (a1 == 4)) else (if a1 = 6 then (kA.j1 kj2 a0 a1 (a1 == 6)) else (if a1 = 9 then (kA.j1 kj2 a0 a1 (a1 == 9)) else (kA.j1 kj2 a0 a1 (a1 == 11))))) = some r := by rw [if_neg (show ¬ (false = true) by decide)] at H; exact H
     clear H
     have H := H1
     clear H1
     have HC11 := Aside0.mk H
     clear H
     go_upto_if 14 with (fail)
     go_cut [14] (fun v14 wc => ∃ (kq : Nat) (x14_10 : Bool), v14 = .bool x14_10 ∧ Aside0 (kA.j1 kq a0 a1 x14_10 = some r) ∧ Aside0 (kq ≤ kj2) ∧ Drawn0 w wc)
     case first =>
      have H := HC11.out
      clear HC11
      by_cases c12 : a1 = 4
      · rw [if_pos c12] at H
        have c12b0 : (a1 == 4) = true := beq_iff_eq.mpr c12
        have c12b1 : (a1 != 4) = false := bne_eq_false_iff_eq.mpr c12
        clear c12
        (first | rw [c12b0] | (simp only [i64_w, i32_w]; rw [c12b0]) | skip)
        have H' := Aside0.mk H
        clear H
        go_wp2
        go_meet
        case rel => exact ⟨_, ((a1 == 4)), (by first | rfl | (simp; done) | (simp [*]; done)), H', ⟨by have := HJ2.out; first | omega | exact Nat.le_refl _⟩, by repeat (first | exact Drawn0.refl _ | apply Drawn0.step)⟩
      · rw [if_neg c12] at H
        have c12b0 : (a1 == 4) = false := beq_eq_false_iff_ne.mpr c12
        have c12b1 : (a1 != 4) = true := bne_iff_ne.mpr c12
        (first | rw [c12b0] | (simp only [i64_w, i32_w]; rw [c12b0]) | skip)
        by_cases c13 : a1 = 6
        · rw [if_pos c13] at H
          have c13b0 : (a1 == 6) = true := beq_iff_eq.mpr c13
          have c13b1 : (a1 != 6) = false := bne_eq_false_iff_eq.mpr c13
          clear c13
          have H' := Aside0.mk H
          clear H
          go_wp2
          go_meet
          case rel => exact ⟨_, ((a1 == 6)), (by first | rfl | (simp; done) | (simp [*]; done)), H', ⟨by have := HJ2.out; first | omega | exact Nat.le_refl _⟩, by repeat (first | exact Drawn0.refl _ | apply Drawn0.step)⟩
        · rw [if_neg c13] at H
          have c13b0 : (a1 == 6) = false := beq_eq_false_iff_ne.mpr c13
          have c13b1 : (a1 != 6) = true := bne_iff_ne.mpr c13
          by_cases c14 : a1 = 9
          · rw [if_pos c14] at H
            have c14b0 : (a1 == 9) = true := beq_iff_eq.mpr c14
            have c14b1 : (a1 != 9) = false := bne_eq_false_iff_eq.mpr c14
            clear c14
            have H' := Aside0.mk H
            clear H
            go_wp2
            go_meet
            case rel => exact ⟨_, ((a1 == 9)), (by first | rfl | (simp; done) | (simp [*]; done)), H', ⟨by have := HJ2.out; first | omega | exact Nat.le_refl _⟩, by repeat (first | exact Drawn0.refl _ | apply Drawn0.step)⟩
          · rw [if_neg c14] at H
            have c14b0 : (a1 == 9) = false := beq_eq_false_iff_ne.mpr c14
            have c14b1 : (a1 != 9) = true := bne_iff_ne.mpr c14
            have H' := Aside0.mk H
            clear H
            go_wp2
            go_meet
            case rel => exact ⟨_, ((a1 == 11)), (by first | rfl | (simp; done) | (simp [*]; done)), H', ⟨by have := HJ2.out; first | omega | exact Nat.le_refl _⟩, by repeat (first | exact Drawn0.refl _ | apply Drawn0.step)⟩
     case rest =>
      clear HC11
      try clear c1
      try clear c2
      try clear p2
      try clear c4
      try clear c4b0
      try clear c4b1
      try clear c5
      try clear c5b0
      try clear c5b1
      try clear c6
      try clear c6b0
      try clear c6b1
      try clear c7
      try clear c7b0
      try clear c7b1
      try clear c8
      try clear c8b0
      try clear c8b1
      try clear c9
      try clear c9b0
      try clear c9b1
      try clear c10
      try clear c12
      try clear c12b0
      try clear c12b1
      try clear c13
      try clear c13b0
      try clear c13b1
      try clear c14
      try clear c14b0
      try clear c14b1
      try clear p2
      obtain ⟨kq, x14_10, rfl, HA, HJ10, ⟨mc10, rfl⟩⟩ := hcut
      cases kq with
      | zero => exact absurd HA.out (by simp [kA.j1])
      | succ kj10 =>
       have H := HA.out
       clear HA
       simp only [kA.j1] at H
       by_cases c15 : x14_10 = true
       · subst c15
         have H1 : (some 30) = some r := by rw [if_pos rfl] at H; exact H
         clear H
         have H := H1
         clear H1
         obtain rfl := Option.some.inj H
         go_wp2
         go_ret
         exact ⟨by first | rfl | (simp; done) | (simp [*]; done), by repeat (first | exact Drawn0.refl _ | apply Drawn0.step)⟩
       · replace c15 := Bool.eq_false_iff.mpr c15
         subst c15
         have H1 : (if a1 = 2 then ((bX.f a0).bind fun t327 => (if t327 = true then (some 29) else (some 28))) else (some 0)) = some r := by rw [if_neg (show ¬ (false = true) by decide)] at H; exact H
         clear H
         have H := H1
         clear H1
         by_cases c16 : a1 = 2
         · rw [if_pos c16] at H
           have c16b0 : (a1 == 2) = true := beq_iff_eq.mpr c16
           have c16b1 : (a1 != 2) = false := bne_eq_false_iff_eq.mpr c16
           clear c16
           replace H := Option.bind_eq_some_iff.mp H
           obtain ⟨t327, A170, H⟩ := H
           replace H : (if t327 = true then (some 29) else (some 28)) = some r := H
           have A17 := Aside0.mk A170
           clear A170
           by_cases c18 : t327 = true
           · subst c18
             have H1 : (some 29) = some r := by rw [if_pos rfl] at H; exact H
             clear H
             have H := H1
             clear H1
             obtain rfl := Option.some.inj H
             go_wp2_with (first | ((with_reducible refine bC (f := 142) rfl ?_); refine jH (some 22) rfl rfl Tryz.func142 (by kernel_rfl) rfl #[.int .i64 a0] rfl (by (try simp only [List.map_toArray, List.map_cons, List.map_nil]); first | done | rfl | (simp only [List.length_drop, List.length_take]; rfl)) ?_; (with_reducible refine (bX.calls a0 true _ A17.out).mono ?_); rintro e w' ⟨rfl, ⟨nd, rfl⟩⟩; refine ⟨_, rfl, ?_⟩))
             go_ret
             exact ⟨by first | rfl | (simp; done) | (simp [*]; done), by repeat (first | exact Drawn0.refl _ | apply Drawn0.step)⟩
           · replace c18 := Bool.eq_false_iff.mpr c18
             subst c18
             have H1 : (some 28) = some r := by rw [if_neg (show ¬ (false = true) by decide)] at H; exact H
             clear H
             have H := H1
             clear H1
             obtain rfl := Option.some.inj H
             go_wp2_with (first | ((with_reducible refine bC (f := 142) rfl ?_); refine jH (some 22) rfl rfl Tryz.func142 (by kernel_rfl) rfl #[.int .i64 a0] rfl (by (try simp only [List.map_toArray, List.map_cons, List.map_nil]); first | done | rfl | (simp only [List.length_drop, List.length_take]; rfl)) ?_; (with_reducible refine (bX.calls a0 false _ A17.out).mono ?_); rintro e w' ⟨rfl, ⟨nd, rfl⟩⟩; refine ⟨_, rfl, ?_⟩))
             go_ret
             exact ⟨by first | rfl | (simp; done) | (simp [*]; done), by repeat (first | exact Drawn0.refl _ | apply Drawn0.step)⟩
         · rw [if_neg c16] at H
           have c16b0 : (a1 == 2) = false := beq_eq_false_iff_ne.mpr c16
           have c16b1 : (a1 != 2) = true := bne_iff_ne.mpr c16
           obtain rfl := Option.some.inj H
           go_wp2
           go_ret
           exact ⟨by first | rfl | (simp; done) | (simp [*]; done), by repeat (first | exact Drawn0.refl _ | apply Drawn0.step)⟩
end Go.Proofs.YtimgphlfaninnaaGreat.P
