import Derived.Test.YtimgphlfaninnaaGreatQoobaoafdnj
import Derived.Test.YtimgphlfaninnaaGreatQpcfflmhgam
import Derived.Test.YtimgphlfaninnaaGreatQicghmlnfdo
import Derived.Test.YtimgphlfaninnaaGreatQghjfngbobd
import Derived.Test.YtimgphlfaninnaaGreatQjjckkmidhd
import Derived.Test.YtimgphlfaninnaaGreatQhninfjcbop
namespace Go.Proofs.YtimgphlfaninnaaGreat.P
open Go.RowKit Go.Proofs.YtimgphlfaninnaaGreatW.PrintWords Go.Proofs.YtimgphlfaninnaaGreatW.PrintLast Go.Proofs.YtimgphlfaninnaaGreatW.PrintMore
open Go.Proofs.YtimgphlfaninnaaGreat.A
 attribute [local go_sem] jQ jP zB zC jE jD jO jN
set_option linter.unusedVariables false
set_option linter.unusedSimpArgs false
def kN.f (k : Nat) (a0_0 : Int) (a0_1 : Int) : Option (Bool) := if a0_0 = 0 then ((kJ.f k a0_1).bind fun t792 => (some t792)) else (if a0_0 = (-1) then (some (a0_1 == 0)) else (if a0_0 = 1 then (some (a0_1 == 0)) else (some false)))
theorem kN.mono : ∀ a0 a1 k, LeO (kN.f k a0 a1) (kN.f (k + 1) a0 a1) := by
 intro a0 a1 k
 unfold kN.f
 repeat' first
  | (with_reducible exact kJ.mono _ _)
  | (with_reducible exact LeO.refl _)
  | (with_reducible exact LeO.none _)
  | (with_reducible refine LeO.ite ?_ ?_)
  | (with_reducible refine LeO.bind ?_ (fun _ => ?_))
  | exact kJ.mono _ _
  | exact LeO.none _
  | refine LeO.ite ?_ ?_
  | refine LeO.bind ?_ (fun _ => ?_)
set_option maxRecDepth 100000 in
theorem kN.vc (k : Nat) (a0_0 : Int) (a0_1 : Int) (K : AV → Prop) : afv PA Tryz.prog (tab [(69, kJ.con k)]) noLoops 2 106 [.agg [.int .i64 a0_0, .int .i64 a0_1]] K = (brc (a0_0 == 0) (brc (Option.isSome (kJ.f k a0_1)) (∀ (m0 : Bool), m0 = gd (kJ.f k a0_1) → K (AV.bool m0)) False) (brc (a0_0 == -1) (K (AV.bool (a0_1 == 0))) (brc (a0_0 == 1) (K (AV.bool (a0_1 == 0))) (K (AV.bool false))))) := by kernel_rfl
set_option maxHeartbeats 1000000 in
set_option maxRecDepth 100000 in
theorem kN.calls (k : Nat) (a0_0 : Int) (a0_1 : Int) (r : Bool) (w : World) (h : kN.f k a0_0 a0_1 = some r) :
 Calls Tryz.prog 106 #[.agg #[.int .i64 a0_0, .int .i64 a0_1]] w fun e w' => e = .returned (.bool r) ∧ Below w.heap.size w w' := by
 refine bZ (A := [.agg #[.int .i64 a0_0, .int .i64 a0_1]]) (v := .bool r) (kP (kJ.cok k) (jV)) ((kN.vc k a0_0 a0_1 _).mpr ?_) (by simp [kG, kK, kL, kH, kS, kM, jR]) (fun ρ V' hV => by simpa [kG, kK, kL, kH, kS, kM, bU] using hV)
 unfold kN.f at h
 (try simp only [bne, Option.bind_eq_some_iff, bS] at h)
 (try simp only [bne, zM, wrap_i64])
 first
  | grind (splits := 60) [kD]
  | ((repeat' (first | (have or_ : Or _ _ := h; clear or_; rcases h with h | h) | (have or_ : Exists _ := h; clear or_; obtain ⟨_, h⟩ := h) | (have or_ : And _ _ := h; clear or_; obtain ⟨hq_, h⟩ := h))) <;> (try simp only [Option.some.injEq, Prod.mk.injEq, reduceCtorEq] at h) <;> (try subst_vars) <;> first | (simp_all [kD] <;> (try omega) <;> done) | grind (splits := 60) [kD])
  | (intros; subst_vars; simp_all [kD]; done)
noncomputable def kN.con (k : Nat) : Con
 | [.agg [.int .i64 a0_0, .int .i64 a0_1]] => some ((kN.f k a0_0 a0_1).isSome, .bool (gd (kN.f k a0_0 a0_1)))
 | _ => none
set_option maxRecDepth 100000 in
theorem kN.cok (k : Nat) : COk Tryz.prog 106 (kN.con k) := by
 intro args p v hc hp w A hA
 unfold kN.con at hc
 split at hc
 · rename_i a0_0 a0_1
   simp only [Option.some.injEq, Prod.mk.injEq] at hc
   obtain ⟨rfl, rfl⟩ := hc
   rcases hf : kN.f k a0_0 a0_1 with _ | r
   · rw [hf] at hp; cases hp
   obtain rfl : A = [.agg #[.int .i64 a0_0, .int .i64 a0_1]] := by simpa [kG, kK, kL, kH, kS, kM, jR] using hA
   exact kT (fn := Tryz.f106) Tryz.func106 (by kernel_rfl) (by kernel_rfl) (kN.calls _ _ _ _ w hf) (fun _ => by simp [kD, kG, kK, kL, kH, kS, kM, bU]) (fun _ h => h)
 · cases hc
theorem kN.up {k : Nat} {a0_0 : Int} {a0_1 : Int} {r : Bool} (h : kN.f k a0_0 a0_1 = some r) : kN.f (k + 1) a0_0 a0_1 = some r := kN.mono a0_0 a0_1 k _ h
theorem kN.le {a0_0 : Int} {a0_1 : Int} {r : Bool} {k n : Nat} (h : kN.f k a0_0 a0_1 = some r) (hk : k ≤ n) : kN.f n a0_0 a0_1 = some r := by
 induction hk with
 | refl => exact h
 | step _ ih => exact kN.up ih
def kI.j0 : Nat → Int → Bool → Int → Int → Option (Int × Int × Int)
 | 0, _, _, _, _ => none
 | k + 1, x1, x17, x794000, x794001 => if x17 = true then (some (0, 0, 1)) else (if x794000 = 0 then (if x1 = 86400000000 then ((kJ.f k (wrap64 (x794001 + 1))).bind fun t796 => (if t796 = true then (some (0, wrap64 ((wrap64 ((wrap64 (x794001 + 1)) * 86400000000))), 0)) else (some (0, 0, 10)))) else ((kJ.f k x794001).bind fun t797 => (if t797 = true then (some (0, wrap64 ((wrap64 (x794001 * 86400000000)) + x1), 0)) else (some (0, 0, 10))))) else (some (x794000, 0, 0)))
def kI.f (k : Nat) (a0_0 : Int) (a0_1 : Int) (a1 : Int) : Option (Int × Int × Int) := (kN.f k a0_0 a0_1).bind fun t795 => (if t795 = true then (if a1 < 0 then (kI.j0 k a1 true a0_0 a0_1) else (kI.j0 k a1 (decide (a1 > 86400000000)) a0_0 a0_1)) else (kI.j0 k a1 true a0_0 a0_1))
theorem kI.mono_l : ∀ k, (∀ y0 y1 y2 y3, LeO (kI.j0 k y0 y1 y2 y3) (kI.j0 (k + 1) y0 y1 y2 y3))
 | 0 => fun _ _ _ _ r h => by simp [kI.j0] at h
 | k + 1 => by
  have ih0 := kI.mono_l k
  · intro y0 y1 y2 y3
    unfold kI.j0
    repeat' first
    | (with_reducible exact ih0 _ _ _ _)
    | (with_reducible exact kN.mono _ _ _)
    | (with_reducible exact kJ.mono _ _)
    | (with_reducible exact LeO.refl _)
    | (with_reducible exact LeO.none _)
    | (with_reducible refine LeO.ite ?_ ?_)
    | (with_reducible refine LeO.bind ?_ (fun _ => ?_))
    | exact ih0 _ _ _ _
    | exact kN.mono _ _ _
    | exact kJ.mono _ _
    | exact LeO.none _
    | refine LeO.ite ?_ ?_
    | refine LeO.bind ?_ (fun _ => ?_)
theorem kI.mono : ∀ a0 a1 a2 k, LeO (kI.f k a0 a1 a2) (kI.f (k + 1) a0 a1 a2) := by
 intro a0 a1 a2 k
 have ih0 := kI.mono_l k
 unfold kI.f
 repeat' first
  | (with_reducible exact ih0 _ _ _ _)
  | (with_reducible exact kN.mono _ _ _)
  | (with_reducible exact kJ.mono _ _)
  | (with_reducible exact LeO.refl _)
  | (with_reducible exact LeO.none _)
  | (with_reducible refine LeO.ite ?_ ?_)
  | (with_reducible refine LeO.bind ?_ (fun _ => ?_))
  | exact ih0 _ _ _ _
  | exact kN.mono _ _ _
  | exact kJ.mono _ _
  | exact LeO.none _
  | refine LeO.ite ?_ ?_
  | refine LeO.bind ?_ (fun _ => ?_)
set_option maxRecDepth 100000 in
theorem kI.vc (k : Nat) (a0_0 : Int) (a0_1 : Int) (a1 : Int) (K : AV → Prop) : afv PA Tryz.prog (tab [(69, kJ.con k), (106, kN.con k)]) noLoops 2 82 [.agg [.int .i64 a0_0, .int .i64 a0_1], .int .i64 a1] K = (brc (Option.isSome (kN.f k a0_0 a0_1)) (∀ (m0 : Bool), m0 = gd (kN.f k a0_0 a0_1) → brc (!m0) (K (AV.tup [AV.agg [AV.int IntKind.i64 0, AV.int IntKind.i64 0], AV.int IntKind.i64 1])) (brc (decide (a1 < 0)) (K (AV.tup [AV.agg [AV.int IntKind.i64 0, AV.int IntKind.i64 0], AV.int IntKind.i64 1])) (brc (decide (a1 > 86400000000)) (K (AV.tup [AV.agg [AV.int IntKind.i64 0, AV.int IntKind.i64 0], AV.int IntKind.i64 1])) (brc (a0_0 != 0) (K (AV.tup [AV.agg [AV.int IntKind.i64 a0_0, AV.int IntKind.i64 0], AV.int IntKind.i64 0])) (brc (a1 == 86400000000) (brc (Option.isSome (kJ.f k (IntKind.wrap IntKind.i64 (a0_1 + 1)))) (∀ (m1 : Bool), m1 = gd (kJ.f k (IntKind.wrap IntKind.i64 (a0_1 + 1))) → brc (!m1) (K (AV.tup [AV.agg [AV.int IntKind.i64 0, AV.int IntKind.i64 0], AV.int IntKind.i64 10])) (K (AV.tup [AV.agg [AV.int IntKind.i64 0, AV.int IntKind.i64 (IntKind.wrap IntKind.i64 (IntKind.wrap IntKind.i64 (IntKind.wrap IntKind.i64 (a0_1 + 1) * 86400000000) + 0))], AV.int IntKind.i64 0]))) False) (brc (Option.isSome (kJ.f k a0_1)) (∀ (m1 : Bool), m1 = gd (kJ.f k a0_1) → brc (!m1) (K (AV.tup [AV.agg [AV.int IntKind.i64 0, AV.int IntKind.i64 0], AV.int IntKind.i64 10])) (K (AV.tup [AV.agg [AV.int IntKind.i64 0, AV.int IntKind.i64 (IntKind.wrap IntKind.i64 (IntKind.wrap IntKind.i64 (a0_1 * 86400000000) + a1))], AV.int IntKind.i64 0]))) False)))))) False) := by kernel_rfl
set_option maxHeartbeats 1000000 in
set_option maxRecDepth 100000 in
theorem kI.calls (k : Nat) (a0_0 : Int) (a0_1 : Int) (a1 : Int) (r1 : Int) (r2 : Int) (r3 : Int) (w : World) (h : kI.f k a0_0 a0_1 a1 = some (r1, r2, r3)) :
 Calls Tryz.prog 82 #[.agg #[.int .i64 a0_0, .int .i64 a0_1], .int .i64 a1] w fun e w' => e = .returned (.tuple #[.agg #[.int .i64 r1, .int .i64 r2], .int .i64 r3]) ∧ Below w.heap.size w w' := by
 refine bZ (A := [.agg #[.int .i64 a0_0, .int .i64 a0_1], .int .i64 a1]) (v := .tup [.agg [.int .i64 r1, .int .i64 r2], .int .i64 r3]) (kP (kJ.cok k) (kP (kN.cok k) (jV))) ((kI.vc k a0_0 a0_1 a1 _).mpr ?_) (by simp [kG, kK, kL, kH, kS, kM, jR]) (fun ρ V' hV => by simpa [kG, kK, kL, kH, kS, kM, bU] using hV)
 unfold kI.f at h
 cases k with
 | zero =>
  (try simp only [kI.j0] at h)
  (try simp only [bne, Option.bind_eq_some_iff, bS] at h)
  (try simp only [bne, zM, wrap_i64])
  first
   | grind (splits := 60) [kD]
   | ((repeat' (first | (have or_ : Or _ _ := h; clear or_; rcases h with h | h) | (have or_ : Exists _ := h; clear or_; obtain ⟨_, h⟩ := h) | (have or_ : And _ _ := h; clear or_; obtain ⟨hq_, h⟩ := h))) <;> (try simp only [Option.some.injEq, Prod.mk.injEq, reduceCtorEq] at h) <;> (try subst_vars) <;> first | (simp_all [kD] <;> (try omega) <;> rcases hb0 : decide (a1 < 0) with _ | _ <;> rcases hb1 : decide (a1 > 86400000000) with _ | _ <;> simp_all [kD] <;> done) | grind (splits := 60) [kD])
   | (intros; subst_vars; simp_all [kD]; done)
 | succ k =>
  (try simp only [kI.j0] at h)
  (try simp only [bne, Option.bind_eq_some_iff, bS] at h)
  (try simp only [bne, zM, wrap_i64])
  first
   | grind (splits := 60) [kD, kJ.up, kN.up]
   | ((repeat' (first | (have or_ : Or _ _ := h; clear or_; rcases h with h | h) | (have or_ : Exists _ := h; clear or_; obtain ⟨_, h⟩ := h) | (have or_ : And _ _ := h; clear or_; obtain ⟨hq_, h⟩ := h; (try first | replace hq_ := kJ.le (n := k + 1) hq_ (by omega) | replace hq_ := kN.le (n := k + 1) hq_ (by omega))))) <;> (try simp only [Option.some.injEq, Prod.mk.injEq, reduceCtorEq] at h) <;> (try subst_vars) <;> first | (simp_all [kD] <;> (try omega) <;> rcases hb0 : decide (a1 < 0) with _ | _ <;> rcases hb1 : decide (a1 > 86400000000) with _ | _ <;> simp_all [kD] <;> done) | grind (splits := 60) [kD, kJ.up, kN.up])
   | (intros; subst_vars; simp_all [kD]; done)
noncomputable def kI.con (k : Nat) : Con
 | [.agg [.int .i64 a0_0, .int .i64 a0_1], .int .i64 a1] => some ((kI.f k a0_0 a0_1 a1).isSome, .tup [.agg [.int .i64 (gd (kI.f k a0_0 a0_1 a1)).1, .int .i64 (gd (kI.f k a0_0 a0_1 a1)).2.1], .int .i64 (gd (kI.f k a0_0 a0_1 a1)).2.2])
 | _ => none
set_option maxRecDepth 100000 in
theorem kI.cok (k : Nat) : COk Tryz.prog 82 (kI.con k) := by
 intro args p v hc hp w A hA
 unfold kI.con at hc
 split at hc
 · rename_i a0_0 a0_1 a1
   simp only [Option.some.injEq, Prod.mk.injEq] at hc
   obtain ⟨rfl, rfl⟩ := hc
   rcases hf : kI.f k a0_0 a0_1 a1 with _ | ⟨r1, r2, r3⟩
   · rw [hf] at hp; cases hp
   obtain rfl : A = [.agg #[.int .i64 a0_0, .int .i64 a0_1], .int .i64 a1] := by simpa [kG, kK, kL, kH, kS, kM, jR] using hA
   exact kT (fn := Tryz.f82) Tryz.func82 (by kernel_rfl) (by kernel_rfl) (kI.calls _ _ _ _ _ _ _ w hf) (fun _ => by simp [kD, kG, kK, kL, kH, kS, kM, bU]) (fun _ h => h)
 · cases hc
theorem kI.up {k : Nat} {a0_0 : Int} {a0_1 : Int} {a1 : Int} {r : Int × Int × Int} (h : kI.f k a0_0 a0_1 a1 = some r) : kI.f (k + 1) a0_0 a0_1 a1 = some r := kI.mono a0_0 a0_1 a1 k _ h
theorem kI.le {a0_0 : Int} {a0_1 : Int} {a1 : Int} {r : Int × Int × Int} {k n : Nat} (h : kI.f k a0_0 a0_1 a1 = some r) (hk : k ≤ n) : kI.f n a0_0 a0_1 a1 = some r := by
 induction hk with
 | refl => exact h
 | step _ ih => exact kI.up ih
def zU.f : Option (Bool) := some true
theorem zU.calls (r : Bool) (w : World) (h : zU.f = some r) (hR : r = true) :
 Calls Tryz.prog 16 #[] w fun e w' => e = .returned (.bool r) ∧ Below w.heap.size w w' := by
 cases h
 exact A.known_calls w
noncomputable def zU.con : Con
 | [] => some (decide (zU.f = some true), .bool true)
 | _ => none
set_option maxRecDepth 100000 in
theorem zU.cok : COk Tryz.prog 16 (zU.con) := by
 intro args p v hc hp w A hA
 unfold zU.con at hc
 split at hc
 · simp only [Option.some.injEq, Prod.mk.injEq] at hc
   obtain ⟨rfl, rfl⟩ := hc
   have hf := of_decide_eq_true hp
   obtain rfl : A = [] := by simpa [kG, kK, kL, kH, kS, kM, jR] using hA
   exact kT (fn := Tryz.f16) Tryz.func16 (by kernel_rfl) (by kernel_rfl) (zU.calls  _ w hf rfl) (fun _ => by simp [kD, kG, kK, kL, kH, kS, kM, bU]) (fun _ h => h)
 · cases hc
def jC.f (a0 : Int) (a1 : Int) : Option (Bool) := if a0 ≥ (wrap64 (-a1)) then (some (decide (a0 ≤ a1))) else (some false)
set_option maxHeartbeats 8000000 in
set_option maxRecDepth 100000 in
theorem jC.calls (a0 : Int) (a1 : Int) (r : Bool) (w : World) (h : jC.f a0 a1 = some r) :
 Calls Tryz.prog 87 #[.int .i64 a0, .int .i64 a1] w fun e w' => e = .returned (.bool r) ∧ Drawn0 w w' := by
 have H : (if a0 ≥ (wrap64 (-a1)) then (some (decide (a0 ≤ a1))) else (some false)) = some r := h
 clear h
 by_cases c3 : a0 ≥ (wrap64 (-a1))
 · rw [if_pos c3] at H
   have c3b0 : decide ((wrap64 (-a1)) ≤ a0) = true := decide_eq_true c3
   clear c3
   obtain rfl := Option.some.inj H
   go_enter Tryz.func87, Tryz.ntmps87
   go_wp2
   go_ret
   exact ⟨by first | rfl | (simp; done) | (simp [*]; done), by repeat (first | exact Drawn0.refl _ | apply Drawn0.step)⟩
 · rw [if_neg c3] at H
   have c3b0 : decide ((wrap64 (-a1)) ≤ a0) = false := decide_eq_false c3
   clear c3
   obtain rfl := Option.some.inj H
   go_enter Tryz.func87, Tryz.ntmps87
   go_wp2
   go_ret
   exact ⟨by first | rfl | (simp; done) | (simp [*]; done), by repeat (first | exact Drawn0.refl _ | apply Drawn0.step)⟩
noncomputable def jC.con : Con
 | [.int .i64 a0, .int .i64 a1] => some ((jC.f a0 a1).isSome, .bool (gd (jC.f a0 a1)))
 | _ => none
set_option maxRecDepth 100000 in
theorem jC.cok : COk Tryz.prog 87 (jC.con) := by
 intro args p v hc hp w A hA
 unfold jC.con at hc
 split at hc
 · rename_i a0 a1
   simp only [Option.some.injEq, Prod.mk.injEq] at hc
   obtain ⟨rfl, rfl⟩ := hc
   rcases hf : jC.f a0 a1 with _ | r
   · rw [hf] at hp; cases hp
   obtain rfl : A = [.int .i64 a0, .int .i64 a1] := by simpa [kG, kK, kL, kH, kS, kM, jR] using hA
   exact kT (fn := Tryz.f87) Tryz.func87 (by kernel_rfl) (by kernel_rfl) (jC.calls _ _ _ w hf) (fun _ => by simp [kD, kG, kK, kL, kH, kS, kM, bU]) (fun _ h => h.below)
 · cases hc
def jB.f (a0_0 : Int) (a0_1 : Int) (a0_2 : Int) (a0_3 : Int) : Option (Bool) := if a0_0 = 0 then ((jC.f a0_1 2147483647).bind fun t838 => (if t838 = true then ((jC.f a0_2 2147483647).bind fun t839 => (if t839 = true then ((jC.f a0_3 9223372036854775807).bind fun t840 => (some t840)) else (some false))) else (some false))) else (if a0_0 = (-1) then (if a0_1 = 0 then (if a0_2 = 0 then (some (a0_3 == 0)) else (some false)) else (some false)) else (if a0_0 = 1 then (if a0_1 = 0 then (if a0_2 = 0 then (some (a0_3 == 0)) else (some false)) else (some false)) else (some false)))
set_option maxRecDepth 100000 in
theorem jB.vc (a0_0 : Int) (a0_1 : Int) (a0_2 : Int) (a0_3 : Int) (K : AV → Prop) : afv PA Tryz.prog (tab [(87, jC.con)]) noLoops 2 45 [.agg [.int .i64 a0_0, .int .i64 a0_1, .int .i64 a0_2, .int .i64 a0_3]] K = (brc (a0_0 != 0) (brc (a0_0 == -1) (brc (a0_1 == 0) (brc (a0_2 == 0) (K (AV.bool (a0_3 == 0))) (K (AV.bool false))) (K (AV.bool false))) (brc (a0_0 == 1) (brc (a0_1 == 0) (brc (a0_2 == 0) (K (AV.bool (a0_3 == 0))) (K (AV.bool false))) (K (AV.bool false))) (K (AV.bool false)))) (brc (Option.isSome (jC.f a0_1 2147483647)) (∀ (m0 : Bool), m0 = gd (jC.f a0_1 2147483647) → brc m0 (brc (Option.isSome (jC.f a0_2 2147483647)) (∀ (m1 : Bool), m1 = gd (jC.f a0_2 2147483647) → brc m1 (brc (Option.isSome (jC.f a0_3 9223372036854775807)) (∀ (m2 : Bool), m2 = gd (jC.f a0_3 9223372036854775807) → K (AV.bool m2)) False) (K (AV.bool false))) False) (K (AV.bool false))) False)) := by kernel_rfl
set_option maxHeartbeats 1000000 in
set_option maxRecDepth 100000 in
theorem jB.calls (a0_0 : Int) (a0_1 : Int) (a0_2 : Int) (a0_3 : Int) (r : Bool) (w : World) (h : jB.f a0_0 a0_1 a0_2 a0_3 = some r) :
 Calls Tryz.prog 45 #[.agg #[.int .i64 a0_0, .int .i64 a0_1, .int .i64 a0_2, .int .i64 a0_3]] w fun e w' => e = .returned (.bool r) ∧ Below w.heap.size w w' := by
 refine bZ (A := [.agg #[.int .i64 a0_0, .int .i64 a0_1, .int .i64 a0_2, .int .i64 a0_3]]) (v := .bool r) (kP (jC.cok) (jV)) ((jB.vc a0_0 a0_1 a0_2 a0_3 _).mpr ?_) (by simp [kG, kK, kL, kH, kS, kM, jR]) (fun ρ V' hV => by simpa [kG, kK, kL, kH, kS, kM, bU] using hV)
 unfold jB.f at h
 (try simp only [bne, Option.bind_eq_some_iff, bS] at h)
 (try simp only [bne, zM, wrap_i64])
 first
  | grind (splits := 60) [kD]
  | ((repeat' (first | (have or_ : Or _ _ := h; clear or_; rcases h with h | h) | (have or_ : Exists _ := h; clear or_; obtain ⟨_, h⟩ := h) | (have or_ : And _ _ := h; clear or_; obtain ⟨hq_, h⟩ := h))) <;> (try simp only [Option.some.injEq, Prod.mk.injEq, reduceCtorEq] at h) <;> (try subst_vars) <;> first | (simp_all [kD] <;> (try omega) <;> done) | grind (splits := 60) [kD])
  | (intros; subst_vars; simp_all [kD]; done)
noncomputable def jB.con : Con
 | [.agg [.int .i64 a0_0, .int .i64 a0_1, .int .i64 a0_2, .int .i64 a0_3]] => some ((jB.f a0_0 a0_1 a0_2 a0_3).isSome, .bool (gd (jB.f a0_0 a0_1 a0_2 a0_3)))
 | _ => none
set_option maxRecDepth 100000 in
theorem jB.cok : COk Tryz.prog 45 (jB.con) := by
 intro args p v hc hp w A hA
 unfold jB.con at hc
 split at hc
 · rename_i a0_0 a0_1 a0_2 a0_3
   simp only [Option.some.injEq, Prod.mk.injEq] at hc
   obtain ⟨rfl, rfl⟩ := hc
   rcases hf : jB.f a0_0 a0_1 a0_2 a0_3 with _ | r
   · rw [hf] at hp; cases hp
   obtain rfl : A = [.agg #[.int .i64 a0_0, .int .i64 a0_1, .int .i64 a0_2, .int .i64 a0_3]] := by simpa [kG, kK, kL, kH, kS, kM, jR] using hA
   exact kT (fn := Tryz.f45) Tryz.func45 (by kernel_rfl) (by kernel_rfl) (jB.calls _ _ _ _ _ w hf) (fun _ => by simp [kD, kG, kK, kL, kH, kS, kM, bU]) (fun _ h => h)
 · cases hc
def bL.f (k : Nat) (a0 : Int) (a1 : Int) : Option (Int × Int) := wdRes a0 a1 (wdOut (a0 - a1))
theorem bL.mono : ∀ a0 a1 k, LeO (bL.f k a0 a1) (bL.f (k + 1) a0 a1) := fun _ _ _ => LeO.refl _
theorem bL.calls (k : Nat) (a0 : Int) (a1 : Int) (r1 : Int) (r2 : Int) (w : World) (h : bL.f k a0 a1 = some (r1, r2)) :
 Calls Tryz.prog 54 #[.int .i64 a0, .int .i64 a1] w fun e w' => e = .returned (.tuple #[.int .i64 r1, .int .i64 r2]) ∧ Below w.heap.size w w' :=
 wdFSub_calls h
noncomputable def bL.con (k : Nat) : Con
 | [.int .i64 a0, .int .i64 a1] => some ((bL.f k a0 a1).isSome, .tup [.int .i64 (gd (bL.f k a0 a1)).1, .int .i64 (gd (bL.f k a0 a1)).2])
 | _ => none
set_option maxRecDepth 100000 in
theorem bL.cok (k : Nat) : COk Tryz.prog 54 (bL.con k) := by
 intro args p v hc hp w A hA
 unfold bL.con at hc
 split at hc
 · rename_i a0 a1
   simp only [Option.some.injEq, Prod.mk.injEq] at hc
   obtain ⟨rfl, rfl⟩ := hc
   rcases hf : bL.f k a0 a1 with _ | ⟨r1, r2⟩
   · rw [hf] at hp; cases hp
   obtain rfl : A = [.int .i64 a0, .int .i64 a1] := by simpa [kG, kK, kL, kH, kS, kM, jR] using hA
   exact kT (fn := Tryz.f54) Tryz.func54 (by kernel_rfl) (by kernel_rfl) (bL.calls _ _ _ _ _ w hf) (fun _ => by simp [kD, kG, kK, kL, kH, kS, kM, bU]) (fun _ h => h)
 · cases hc
theorem bL.up {k : Nat} {a0 : Int} {a1 : Int} {r : Int × Int} (h : bL.f k a0 a1 = some r) : bL.f (k + 1) a0 a1 = some r := bL.mono a0 a1 k _ h
theorem bL.le {a0 : Int} {a1 : Int} {r : Int × Int} {k n : Nat} (h : bL.f k a0 a1 = some r) (hk : k ≤ n) : bL.f n a0 a1 = some r := by
 induction hk with
 | refl => exact h
 | step _ ih => exact bL.up ih
mutual
def kR.j0 : Nat → Bool → Int → Int → Int → Int → Option (Int × Int × Int × Int × Int)
 | 0, _, _, _, _, _ => none
 | k + 1, x15, x999000, x999001, x1000000, x1000001 => if x15 = true then (some (0, 0, 0, 0, 1)) else (if x999000 = 0 then (kR.j1 k false x999000 x999001 x1000000 x1000001) else (kR.j1 k (x999000 == x1000000) x999000 x999001 x1000000 x1000001))
def kR.j1 : Nat → Bool → Int → Int → Int → Int → Option (Int × Int × Int × Int × Int)
 | 0, _, _, _, _, _ => none
 | k + 1, x26, x999000, x999001, x1000000, x1000001 => if x26 = true then (some (0, 0, 0, 0, 10)) else (if x999000 = 0 then (if x1000000 = 0 then ((bL.f k x999001 x1000001).bind fun bt1003 => (if bt1003.2 = 0 then (some (0, 0, wrap64 (Int.tdiv bt1003.1 86400000000), Int.tmod bt1003.1 86400000000, 0)) else (some (0, 0, 0, 0, bt1003.2)))) else (some (wrap64 (-x1000000), 0, 0, 0, 0))) else (some (x999000, 0, 0, 0, 0)))
end
def kR.f (k : Nat) (a0_0 : Int) (a0_1 : Int) (a1_0 : Int) (a1_1 : Int) : Option (Int × Int × Int × Int × Int) := (kA.f k a0_0 a0_1).bind fun t1001 => (if t1001 = true then ((kA.f k a1_0 a1_1).bind fun t1002 => (kR.j0 k (!t1002) a0_0 a0_1 a1_0 a1_1)) else (kR.j0 k true a0_0 a0_1 a1_0 a1_1))
set_option maxRecDepth 100000 in
theorem kR.vc (k : Nat) (a0_0 : Int) (a0_1 : Int) (a1_0 : Int) (a1_1 : Int) (K : AV → Prop) : afv PA Tryz.prog (tab [(30, kA.con k), (54, bL.con k)]) noLoops 2 22 [.agg [.int .i64 a0_0, .int .i64 a0_1], .agg [.int .i64 a1_0, .int .i64 a1_1]] K = (brc (Option.isSome (kA.f k a0_0 a0_1)) (∀ (m0 : Bool), m0 = gd (kA.f k a0_0 a0_1) → brc (!m0) (K (AV.tup [AV.agg [AV.int IntKind.i64 0, AV.int IntKind.i64 0, AV.int IntKind.i64 0, AV.int IntKind.i64 0], AV.int IntKind.i64 1])) (brc (Option.isSome (kA.f k a1_0 a1_1)) (∀ (m1 : Bool), m1 = gd (kA.f k a1_0 a1_1) → brc (!m1) (K (AV.tup [AV.agg [AV.int IntKind.i64 0, AV.int IntKind.i64 0, AV.int IntKind.i64 0, AV.int IntKind.i64 0], AV.int IntKind.i64 1])) (brc (a0_0 != 0) (brc (a0_0 == a1_0) (K (AV.tup [AV.agg [AV.int IntKind.i64 0, AV.int IntKind.i64 0, AV.int IntKind.i64 0, AV.int IntKind.i64 0], AV.int IntKind.i64 10])) (brc (a0_0 != 0) (K (AV.tup [AV.agg [AV.int IntKind.i64 a0_0, AV.int IntKind.i64 0, AV.int IntKind.i64 0, AV.int IntKind.i64 0], AV.int IntKind.i64 0])) (brc (a1_0 != 0) (K (AV.tup [AV.agg [AV.int IntKind.i64 (IntKind.wrap IntKind.i64 (0 - a1_0)), AV.int IntKind.i64 0, AV.int IntKind.i64 0, AV.int IntKind.i64 0], AV.int IntKind.i64 0])) (brc (Option.isSome (bL.f k a0_1 a1_1)) (∀ (m2 : Int), m2 = Prod.fst (gd (bL.f k a0_1 a1_1)) → ∀ (m3 : Int), m3 = Prod.snd (gd (bL.f k a0_1 a1_1)) → brc (m3 != 0) (K (AV.tup [AV.agg [AV.int IntKind.i64 0, AV.int IntKind.i64 0, AV.int IntKind.i64 0, AV.int IntKind.i64 0], AV.int IntKind.i64 m3])) (K (AV.tup [AV.agg [AV.int IntKind.i64 0, AV.int IntKind.i64 0, AV.int IntKind.i64 (IntKind.wrap IntKind.i64 (Int.tdiv m2 86400000000)), AV.int IntKind.i64 (Int.tmod m2 86400000000)], AV.int IntKind.i64 0]))) False)))) (brc (a0_0 != 0) (K (AV.tup [AV.agg [AV.int IntKind.i64 a0_0, AV.int IntKind.i64 0, AV.int IntKind.i64 0, AV.int IntKind.i64 0], AV.int IntKind.i64 0])) (brc (a1_0 != 0) (K (AV.tup [AV.agg [AV.int IntKind.i64 (IntKind.wrap IntKind.i64 (0 - a1_0)), AV.int IntKind.i64 0, AV.int IntKind.i64 0, AV.int IntKind.i64 0], AV.int IntKind.i64 0])) (brc (Option.isSome (bL.f k a0_1 a1_1)) (∀ (m2 : Int), m2 = Prod.fst (gd (bL.f k a0_1 a1_1)) → ∀ (m3 : Int), m3 = Prod.snd (gd (bL.f k a0_1 a1_1)) → brc (m3 != 0) (K (AV.tup [AV.agg [AV.int IntKind.i64 0, AV.int IntKind.i64 0, AV.int IntKind.i64 0, AV.int IntKind.i64 0], AV.int IntKind.i64 m3])) (K (AV.tup [AV.agg [AV.int IntKind.i64 0, AV.int IntKind.i64 0, AV.int IntKind.i64 (IntKind.wrap IntKind.i64 (Int.tdiv m2 86400000000)), AV.int IntKind.i64 (Int.tmod m2 86400000000)], AV.int IntKind.i64 0]))) False))))) False)) False) := by kernel_rfl
set_option maxHeartbeats 1000000 in
set_option maxRecDepth 100000 in
theorem kR.calls (k : Nat) (a0_0 : Int) (a0_1 : Int) (a1_0 : Int) (a1_1 : Int) (r1 : Int) (r2 : Int) (r3 : Int) (r4 : Int) (r5 : Int) (w : World) (h : kR.f k a0_0 a0_1 a1_0 a1_1 = some (r1, r2, r3, r4, r5)) :
 Calls Tryz.prog 22 #[.agg #[.int .i64 a0_0, .int .i64 a0_1], .agg #[.int .i64 a1_0, .int .i64 a1_1]] w fun e w' => e = .returned (.tuple #[.agg #[.int .i64 r1, .int .i64 r2, .int .i64 r3, .int .i64 r4], .int .i64 r5]) ∧ Below w.heap.size w w' := by
 refine bZ (A := [.agg #[.int .i64 a0_0, .int .i64 a0_1], .agg #[.int .i64 a1_0, .int .i64 a1_1]]) (v := .tup [.agg [.int .i64 r1, .int .i64 r2, .int .i64 r3, .int .i64 r4], .int .i64 r5]) (kP (kA.cok k) (kP (bL.cok k) (jV))) ((kR.vc k a0_0 a0_1 a1_0 a1_1 _).mpr ?_) (by simp [kG, kK, kL, kH, kS, kM, jR]) (fun ρ V' hV => by simpa [kG, kK, kL, kH, kS, kM, bU] using hV)
 unfold kR.f at h
 cases k with
 | zero =>
  (try simp only [kR.j0, kR.j1] at h)
  (try simp only [bne, Option.bind_eq_some_iff, bS] at h)
  (try simp only [bne, zM, wrap_i64])
  first
   | grind (splits := 60) [kD]
   | ((repeat' (first | (have or_ : Or _ _ := h; clear or_; rcases h with h | h) | (have or_ : Exists _ := h; clear or_; obtain ⟨_, h⟩ := h) | (have or_ : And _ _ := h; clear or_; obtain ⟨hq_, h⟩ := h))) <;> (try simp only [Option.some.injEq, Prod.mk.injEq, reduceCtorEq] at h) <;> (try subst_vars) <;> first | (simp_all [kD] <;> (try omega) <;> done) | grind (splits := 60) [kD])
   | (intros; subst_vars; simp_all [kD]; done)
 | succ k =>
  cases k with
  | zero =>
   (try simp only [kR.j0, kR.j1] at h)
   (try simp only [bne, Option.bind_eq_some_iff, bS] at h)
   (try simp only [bne, zM, wrap_i64])
   first
    | grind (splits := 60) [kD, kA.up, bL.up]
    | ((repeat' (first | (have or_ : Or _ _ := h; clear or_; rcases h with h | h) | (have or_ : Exists _ := h; clear or_; obtain ⟨_, h⟩ := h) | (have or_ : And _ _ := h; clear or_; obtain ⟨hq_, h⟩ := h; (try first | replace hq_ := kA.le (n := 0 + 1) hq_ (by omega) | replace hq_ := bL.le (n := 0 + 1) hq_ (by omega))))) <;> (try simp only [Option.some.injEq, Prod.mk.injEq, reduceCtorEq] at h) <;> (try subst_vars) <;> first | (simp_all [kD] <;> (try omega) <;> done) | grind (splits := 60) [kD, kA.up, bL.up])
    | (intros; subst_vars; simp_all [kD]; done)
  | succ k =>
   (try simp only [kR.j0, kR.j1] at h)
   (try simp only [bne, Option.bind_eq_some_iff, bS] at h)
   (try simp only [bne, zM, wrap_i64])
   first
    | grind (splits := 60) [kD, kA.up, bL.up]
    | ((repeat' (first | (have or_ : Or _ _ := h; clear or_; rcases h with h | h) | (have or_ : Exists _ := h; clear or_; obtain ⟨_, h⟩ := h) | (have or_ : And _ _ := h; clear or_; obtain ⟨hq_, h⟩ := h; (try first | replace hq_ := kA.le (n := k + 1 + 1) hq_ (by omega) | replace hq_ := bL.le (n := k + 1 + 1) hq_ (by omega))))) <;> (try simp only [Option.some.injEq, Prod.mk.injEq, reduceCtorEq] at h) <;> (try subst_vars) <;> first | (simp_all [kD] <;> (try omega) <;> done) | grind (splits := 60) [kD, kA.up, bL.up])
    | (intros; subst_vars; simp_all [kD]; done)
noncomputable def kR.con (k : Nat) : Con
 | [.agg [.int .i64 a0_0, .int .i64 a0_1], .agg [.int .i64 a1_0, .int .i64 a1_1]] => some ((kR.f k a0_0 a0_1 a1_0 a1_1).isSome, .tup [.agg [.int .i64 (gd (kR.f k a0_0 a0_1 a1_0 a1_1)).1, .int .i64 (gd (kR.f k a0_0 a0_1 a1_0 a1_1)).2.1, .int .i64 (gd (kR.f k a0_0 a0_1 a1_0 a1_1)).2.2.1, .int .i64 (gd (kR.f k a0_0 a0_1 a1_0 a1_1)).2.2.2.1], .int .i64 (gd (kR.f k a0_0 a0_1 a1_0 a1_1)).2.2.2.2])
 | _ => none
set_option maxRecDepth 100000 in
theorem kR.cok (k : Nat) : COk Tryz.prog 22 (kR.con k) := by
 intro args p v hc hp w A hA
 unfold kR.con at hc
 split at hc
 · rename_i a0_0 a0_1 a1_0 a1_1
   simp only [Option.some.injEq, Prod.mk.injEq] at hc
   obtain ⟨rfl, rfl⟩ := hc
   rcases hf : kR.f k a0_0 a0_1 a1_0 a1_1 with _ | ⟨r1, r2, r3, r4, r5⟩
   · rw [hf] at hp; cases hp
   obtain rfl : A = [.agg #[.int .i64 a0_0, .int .i64 a0_1], .agg #[.int .i64 a1_0, .int .i64 a1_1]] := by simpa [kG, kK, kL, kH, kS, kM, jR] using hA
   exact kT (fn := Tryz.f22) Tryz.func22 (by kernel_rfl) (by kernel_rfl) (kR.calls _ _ _ _ _ _ _ _ _ _ w hf) (fun _ => by simp [kD, kG, kK, kL, kH, kS, kM, bU]) (fun _ h => h)
 · cases hc
def kZ.f (k : Nat) (a0_0 : Int) (a0_1 : Int) : Option (Int × Int × Int × Int) := (kA.f k a0_0 a0_1).bind fun t846 => (if t846 = true then (if a0_0 = 0 then ((bM.f k a0_1).bind fun bt847 => (some (0, bt847.1, bt847.2, 0))) else (some (a0_0, 0, 0, 0))) else (some (0, 0, 0, 1)))
theorem kZ.mono : ∀ a0 a1 k, LeO (kZ.f k a0 a1) (kZ.f (k + 1) a0 a1) := by
 intro a0 a1 k
 unfold kZ.f
 repeat' first
  | (with_reducible exact bM.mono _ _)
  | (with_reducible exact kA.mono _ _ _)
  | (with_reducible exact LeO.refl _)
  | (with_reducible exact LeO.none _)
  | (with_reducible refine LeO.ite ?_ ?_)
  | (with_reducible refine LeO.bind ?_ (fun _ => ?_))
  | exact bM.mono _ _
  | exact kA.mono _ _ _
  | exact LeO.none _
  | refine LeO.ite ?_ ?_
  | refine LeO.bind ?_ (fun _ => ?_)
set_option maxRecDepth 100000 in
theorem kZ.vc (k : Nat) (a0_0 : Int) (a0_1 : Int) (K : AV → Prop) : afv PA Tryz.prog (tab [(30, kA.con k), (68, bM.con k)]) noLoops 2 60 [.agg [.int .i64 a0_0, .int .i64 a0_1]] K = (brc (Option.isSome (kA.f k a0_0 a0_1)) (∀ (m0 : Bool), m0 = gd (kA.f k a0_0 a0_1) → brc (!m0) (K (AV.tup [AV.agg [AV.int IntKind.i64 0, AV.int IntKind.i64 0], AV.int IntKind.i64 0, AV.int IntKind.i64 1])) (brc (a0_0 != 0) (K (AV.tup [AV.agg [AV.int IntKind.i64 a0_0, AV.int IntKind.i64 0], AV.int IntKind.i64 0, AV.int IntKind.i64 0])) (brc (Option.isSome (bM.f k a0_1)) (∀ (m1 : Int), m1 = Prod.fst (gd (bM.f k a0_1)) → ∀ (m2 : Int), m2 = Prod.snd (gd (bM.f k a0_1)) → K (AV.tup [AV.agg [AV.int IntKind.i64 0, AV.int IntKind.i64 m1], AV.int IntKind.i64 m2, AV.int IntKind.i64 0])) False))) False) := by kernel_rfl
set_option maxHeartbeats 1000000 in
set_option maxRecDepth 100000 in
theorem kZ.calls (k : Nat) (a0_0 : Int) (a0_1 : Int) (r1 : Int) (r2 : Int) (r3 : Int) (r4 : Int) (w : World) (h : kZ.f k a0_0 a0_1 = some (r1, r2, r3, r4)) :
 Calls Tryz.prog 60 #[.agg #[.int .i64 a0_0, .int .i64 a0_1]] w fun e w' => e = .returned (.tuple #[.agg #[.int .i64 r1, .int .i64 r2], .int .i64 r3, .int .i64 r4]) ∧ Below w.heap.size w w' := by
 refine bZ (A := [.agg #[.int .i64 a0_0, .int .i64 a0_1]]) (v := .tup [.agg [.int .i64 r1, .int .i64 r2], .int .i64 r3, .int .i64 r4]) (kP (kA.cok k) (kP (bM.cok k) (jV))) ((kZ.vc k a0_0 a0_1 _).mpr ?_) (by simp [kG, kK, kL, kH, kS, kM, jR]) (fun ρ V' hV => by simpa [kG, kK, kL, kH, kS, kM, bU] using hV)
 unfold kZ.f at h
 (try simp only [bne, Option.bind_eq_some_iff, bS] at h)
 (try simp only [bne, zM, wrap_i64])
 first
  | grind (splits := 60) [kD]
  | ((repeat' (first | (have or_ : Or _ _ := h; clear or_; rcases h with h | h) | (have or_ : Exists _ := h; clear or_; obtain ⟨_, h⟩ := h) | (have or_ : And _ _ := h; clear or_; obtain ⟨hq_, h⟩ := h))) <;> (try simp only [Option.some.injEq, Prod.mk.injEq, reduceCtorEq] at h) <;> (try subst_vars) <;> first | (simp_all [kD] <;> (try omega) <;> done) | grind (splits := 60) [kD])
  | (intros; subst_vars; simp_all [kD]; done)
noncomputable def kZ.con (k : Nat) : Con
 | [.agg [.int .i64 a0_0, .int .i64 a0_1]] => some ((kZ.f k a0_0 a0_1).isSome, .tup [.agg [.int .i64 (gd (kZ.f k a0_0 a0_1)).1, .int .i64 (gd (kZ.f k a0_0 a0_1)).2.1], .int .i64 (gd (kZ.f k a0_0 a0_1)).2.2.1, .int .i64 (gd (kZ.f k a0_0 a0_1)).2.2.2])
 | _ => none
set_option maxRecDepth 100000 in
theorem kZ.cok (k : Nat) : COk Tryz.prog 60 (kZ.con k) := by
 intro args p v hc hp w A hA
 unfold kZ.con at hc
 split at hc
 · rename_i a0_0 a0_1
   simp only [Option.some.injEq, Prod.mk.injEq] at hc
   obtain ⟨rfl, rfl⟩ := hc
   rcases hf : kZ.f k a0_0 a0_1 with _ | ⟨r1, r2, r3, r4⟩
   · rw [hf] at hp; cases hp
   obtain rfl : A = [.agg #[.int .i64 a0_0, .int .i64 a0_1]] := by simpa [kG, kK, kL, kH, kS, kM, jR] using hA
   exact kT (fn := Tryz.f60) Tryz.func60 (by kernel_rfl) (by kernel_rfl) (kZ.calls _ _ _ _ _ _ _ w hf) (fun _ => by simp [kD, kG, kK, kL, kH, kS, kM, bU]) (fun _ h => h)
 · cases hc
theorem kZ.up {k : Nat} {a0_0 : Int} {a0_1 : Int} {r : Int × Int × Int × Int} (h : kZ.f k a0_0 a0_1 = some r) : kZ.f (k + 1) a0_0 a0_1 = some r := kZ.mono a0_0 a0_1 k _ h
theorem kZ.le {a0_0 : Int} {a0_1 : Int} {r : Int × Int × Int × Int} {k n : Nat} (h : kZ.f k a0_0 a0_1 = some r) (hk : k ≤ n) : kZ.f n a0_0 a0_1 = some r := by
 induction hk with
 | refl => exact h
 | step _ ih => exact kZ.up ih
def bK.f (k : Nat) (a0 : Int) (a1 : Int) : Option (Int × Int × Int) := if a1 = 0 then ((kJ.f k a0).bind fun t850 => (if t850 = true then (some (0, a0, 0)) else (some (0, 0, 10)))) else (some (0, 0, 10))
theorem bK.mono : ∀ a0 a1 k, LeO (bK.f k a0 a1) (bK.f (k + 1) a0 a1) := by
 intro a0 a1 k
 unfold bK.f
 repeat' first
  | (with_reducible exact kJ.mono _ _)
  | (with_reducible exact LeO.refl _)
  | (with_reducible exact LeO.none _)
  | (with_reducible refine LeO.ite ?_ ?_)
  | (with_reducible refine LeO.bind ?_ (fun _ => ?_))
  | exact kJ.mono _ _
  | exact LeO.none _
  | refine LeO.ite ?_ ?_
  | refine LeO.bind ?_ (fun _ => ?_)
set_option maxRecDepth 100000 in
theorem bK.vc (k : Nat) (a0 : Int) (a1 : Int) (K : AV → Prop) : afv PA Tryz.prog (tab [(69, kJ.con k)]) noLoops 2 125 [.int .i64 a0, .int .i64 a1] K = (brc (a1 != 0) (K (AV.tup [AV.agg [AV.int IntKind.i64 0, AV.int IntKind.i64 0], AV.int IntKind.i64 10])) (brc (Option.isSome (kJ.f k a0)) (∀ (m0 : Bool), m0 = gd (kJ.f k a0) → brc (!m0) (K (AV.tup [AV.agg [AV.int IntKind.i64 0, AV.int IntKind.i64 0], AV.int IntKind.i64 10])) (K (AV.tup [AV.agg [AV.int IntKind.i64 0, AV.int IntKind.i64 a0], AV.int IntKind.i64 0]))) False)) := by kernel_rfl
set_option maxHeartbeats 1000000 in
set_option maxRecDepth 100000 in
theorem bK.calls (k : Nat) (a0 : Int) (a1 : Int) (r1 : Int) (r2 : Int) (r3 : Int) (w : World) (h : bK.f k a0 a1 = some (r1, r2, r3)) :
 Calls Tryz.prog 125 #[.int .i64 a0, .int .i64 a1] w fun e w' => e = .returned (.tuple #[.agg #[.int .i64 r1, .int .i64 r2], .int .i64 r3]) ∧ Below w.heap.size w w' := by
 refine bZ (A := [.int .i64 a0, .int .i64 a1]) (v := .tup [.agg [.int .i64 r1, .int .i64 r2], .int .i64 r3]) (kP (kJ.cok k) (jV)) ((bK.vc k a0 a1 _).mpr ?_) (by simp [kG, kK, kL, kH, kS, kM, jR]) (fun ρ V' hV => by simpa [kG, kK, kL, kH, kS, kM, bU] using hV)
 unfold bK.f at h
 (try simp only [bne, Option.bind_eq_some_iff, bS] at h)
 (try simp only [bne, zM, wrap_i64])
 first
  | grind (splits := 60) [kD]
  | ((repeat' (first | (have or_ : Or _ _ := h; clear or_; rcases h with h | h) | (have or_ : Exists _ := h; clear or_; obtain ⟨_, h⟩ := h) | (have or_ : And _ _ := h; clear or_; obtain ⟨hq_, h⟩ := h))) <;> (try simp only [Option.some.injEq, Prod.mk.injEq, reduceCtorEq] at h) <;> (try subst_vars) <;> first | (simp_all [kD] <;> (try omega) <;> done) | grind (splits := 60) [kD])
  | (intros; subst_vars; simp_all [kD]; done)
noncomputable def bK.con (k : Nat) : Con
 | [.int .i64 a0, .int .i64 a1] => some ((bK.f k a0 a1).isSome, .tup [.agg [.int .i64 (gd (bK.f k a0 a1)).1, .int .i64 (gd (bK.f k a0 a1)).2.1], .int .i64 (gd (bK.f k a0 a1)).2.2])
 | _ => none
set_option maxRecDepth 100000 in
theorem bK.cok (k : Nat) : COk Tryz.prog 125 (bK.con k) := by
 intro args p v hc hp w A hA
 unfold bK.con at hc
 split at hc
 · rename_i a0 a1
   simp only [Option.some.injEq, Prod.mk.injEq] at hc
   obtain ⟨rfl, rfl⟩ := hc
   rcases hf : bK.f k a0 a1 with _ | ⟨r1, r2, r3⟩
   · rw [hf] at hp; cases hp
   obtain rfl : A = [.int .i64 a0, .int .i64 a1] := by simpa [kG, kK, kL, kH, kS, kM, jR] using hA
   exact kT (fn := Tryz.f125) Tryz.func125 (by kernel_rfl) (by kernel_rfl) (bK.calls _ _ _ _ _ _ w hf) (fun _ => by simp [kD, kG, kK, kL, kH, kS, kM, bU]) (fun _ h => h)
 · cases hc
def bV.f (k : Nat) (a0 : Int) (a1 : Int) : Option (Int × Int) := wdRes a0 a1 (wdOut (a0 + a1))
theorem bV.mono : ∀ a0 a1 k, LeO (bV.f k a0 a1) (bV.f (k + 1) a0 a1) := fun _ _ _ => LeO.refl _
theorem bV.calls (k : Nat) (a0 : Int) (a1 : Int) (r1 : Int) (r2 : Int) (w : World) (h : bV.f k a0 a1 = some (r1, r2)) :
 Calls Tryz.prog 90 #[.int .i64 a0, .int .i64 a1] w fun e w' => e = .returned (.tuple #[.int .i64 r1, .int .i64 r2]) ∧ Below w.heap.size w w' :=
 wdFAdd_calls h
noncomputable def bV.con (k : Nat) : Con
 | [.int .i64 a0, .int .i64 a1] => some ((bV.f k a0 a1).isSome, .tup [.int .i64 (gd (bV.f k a0 a1)).1, .int .i64 (gd (bV.f k a0 a1)).2])
 | _ => none
set_option maxRecDepth 100000 in
theorem bV.cok (k : Nat) : COk Tryz.prog 90 (bV.con k) := by
 intro args p v hc hp w A hA
 unfold bV.con at hc
 split at hc
 · rename_i a0 a1
   simp only [Option.some.injEq, Prod.mk.injEq] at hc
   obtain ⟨rfl, rfl⟩ := hc
   rcases hf : bV.f k a0 a1 with _ | ⟨r1, r2⟩
   · rw [hf] at hp; cases hp
   obtain rfl : A = [.int .i64 a0, .int .i64 a1] := by simpa [kG, kK, kL, kH, kS, kM, jR] using hA
   exact kT (fn := Tryz.f90) Tryz.func90 (by kernel_rfl) (by kernel_rfl) (bV.calls _ _ _ _ _ w hf) (fun _ => by simp [kD, kG, kK, kL, kH, kS, kM, bU]) (fun _ h => h)
 · cases hc
def bJ.f (k : Nat) (a0_0 : Int) (a0_1 : Int) (a1 : Int) (a2 : Int) : Option (Int × Int × Int) := (bV.f k a0_1 a2).bind fun bt618 => (if a1 = 0 then (if bt618.2 = 0 then ((kA.f k 0 bt618.1).bind fun t621 => (if t621 = true then (some (0, bt618.1, 0)) else (some (0, 0, 10)))) else (some (0, 0, 10))) else (some (0, 0, 10)))
theorem bJ.mono : ∀ a0 a1 a2 a3 k, LeO (bJ.f k a0 a1 a2 a3) (bJ.f (k + 1) a0 a1 a2 a3) := by
 intro a0 a1 a2 a3 k
 unfold bJ.f
 repeat' first
  | (with_reducible exact bV.mono _ _ _)
  | (with_reducible exact kA.mono _ _ _)
  | (with_reducible exact LeO.refl _)
  | (with_reducible exact LeO.none _)
  | (with_reducible refine LeO.ite ?_ ?_)
  | (with_reducible refine LeO.bind ?_ (fun _ => ?_))
  | exact bV.mono _ _ _
  | exact kA.mono _ _ _
  | exact LeO.none _
  | refine LeO.ite ?_ ?_
  | refine LeO.bind ?_ (fun _ => ?_)
set_option maxRecDepth 100000 in
theorem bJ.vc (k : Nat) (a0_0 : Int) (a0_1 : Int) (a1 : Int) (a2 : Int) (K : AV → Prop) : afv PA Tryz.prog (tab [(30, kA.con k), (90, bV.con k)]) noLoops 2 48 [.agg [.int .i64 a0_0, .int .i64 a0_1], .int .i64 a1, .int .i64 a2] K = (brc (Option.isSome (bV.f k a0_1 a2)) (∀ (m0 : Int), m0 = Prod.fst (gd (bV.f k a0_1 a2)) → ∀ (m1 : Int), m1 = Prod.snd (gd (bV.f k a0_1 a2)) → brc (a1 != 0) (K (AV.tup [AV.agg [AV.int IntKind.i64 0, AV.int IntKind.i64 0], AV.int IntKind.i64 10])) (brc (m1 != 0) (K (AV.tup [AV.agg [AV.int IntKind.i64 0, AV.int IntKind.i64 0], AV.int IntKind.i64 10])) (brc (Option.isSome (kA.f k 0 m0)) (∀ (m2 : Bool), m2 = gd (kA.f k 0 m0) → brc (!m2) (K (AV.tup [AV.agg [AV.int IntKind.i64 0, AV.int IntKind.i64 0], AV.int IntKind.i64 10])) (K (AV.tup [AV.agg [AV.int IntKind.i64 0, AV.int IntKind.i64 m0], AV.int IntKind.i64 0]))) False))) False) := by kernel_rfl
set_option maxHeartbeats 1000000 in
set_option maxRecDepth 100000 in
theorem bJ.calls (k : Nat) (a0_0 : Int) (a0_1 : Int) (a1 : Int) (a2 : Int) (r1 : Int) (r2 : Int) (r3 : Int) (w : World) (h : bJ.f k a0_0 a0_1 a1 a2 = some (r1, r2, r3)) :
 Calls Tryz.prog 48 #[.agg #[.int .i64 a0_0, .int .i64 a0_1], .int .i64 a1, .int .i64 a2] w fun e w' => e = .returned (.tuple #[.agg #[.int .i64 r1, .int .i64 r2], .int .i64 r3]) ∧ Below w.heap.size w w' := by
 refine bZ (A := [.agg #[.int .i64 a0_0, .int .i64 a0_1], .int .i64 a1, .int .i64 a2]) (v := .tup [.agg [.int .i64 r1, .int .i64 r2], .int .i64 r3]) (kP (kA.cok k) (kP (bV.cok k) (jV))) ((bJ.vc k a0_0 a0_1 a1 a2 _).mpr ?_) (by simp [kG, kK, kL, kH, kS, kM, jR]) (fun ρ V' hV => by simpa [kG, kK, kL, kH, kS, kM, bU] using hV)
 unfold bJ.f at h
 (try simp only [bne, Option.bind_eq_some_iff, bS] at h)
 (try simp only [bne, zM, wrap_i64])
 first
  | grind (splits := 60) [kD]
  | ((repeat' (first | (have or_ : Or _ _ := h; clear or_; rcases h with h | h) | (have or_ : Exists _ := h; clear or_; obtain ⟨_, h⟩ := h) | (have or_ : And _ _ := h; clear or_; obtain ⟨hq_, h⟩ := h))) <;> (try simp only [Option.some.injEq, Prod.mk.injEq, reduceCtorEq] at h) <;> (try subst_vars) <;> first | (simp_all [kD] <;> (try omega) <;> done) | grind (splits := 60) [kD])
  | (intros; subst_vars; simp_all [kD]; done)
noncomputable def bJ.con (k : Nat) : Con
 | [.agg [.int .i64 a0_0, .int .i64 a0_1], .int .i64 a1, .int .i64 a2] => some ((bJ.f k a0_0 a0_1 a1 a2).isSome, .tup [.agg [.int .i64 (gd (bJ.f k a0_0 a0_1 a1 a2)).1, .int .i64 (gd (bJ.f k a0_0 a0_1 a1 a2)).2.1], .int .i64 (gd (bJ.f k a0_0 a0_1 a1 a2)).2.2])
 | _ => none
set_option maxRecDepth 100000 in
theorem bJ.cok (k : Nat) : COk Tryz.prog 48 (bJ.con k) := by
 intro args p v hc hp w A hA
 unfold bJ.con at hc
 split at hc
 · rename_i a0_0 a0_1 a1 a2
   simp only [Option.some.injEq, Prod.mk.injEq] at hc
   obtain ⟨rfl, rfl⟩ := hc
   rcases hf : bJ.f k a0_0 a0_1 a1 a2 with _ | ⟨r1, r2, r3⟩
   · rw [hf] at hp; cases hp
   obtain rfl : A = [.agg #[.int .i64 a0_0, .int .i64 a0_1], .int .i64 a1, .int .i64 a2] := by simpa [kG, kK, kL, kH, kS, kM, jR] using hA
   exact kT (fn := Tryz.f48) Tryz.func48 (by kernel_rfl) (by kernel_rfl) (bJ.calls _ _ _ _ _ _ _ _ w hf) (fun _ => by simp [kD, kG, kK, kL, kH, kS, kM, bU]) (fun _ h => h)
 · cases hc
theorem bJ.up {k : Nat} {a0_0 : Int} {a0_1 : Int} {a1 : Int} {a2 : Int} {r : Int × Int × Int} (h : bJ.f k a0_0 a0_1 a1 a2 = some r) : bJ.f (k + 1) a0_0 a0_1 a1 a2 = some r := bJ.mono a0_0 a0_1 a1 a2 k _ h
theorem bJ.le {a0_0 : Int} {a0_1 : Int} {a1 : Int} {a2 : Int} {r : Int × Int × Int} {k n : Nat} (h : bJ.f k a0_0 a0_1 a1 a2 = some r) (hk : k ≤ n) : bJ.f n a0_0 a0_1 a1 a2 = some r := by
 induction hk with
 | refl => exact h
 | step _ ih => exact bJ.up ih
mutual
def kE.j0 : Nat → Bool → Int → Int → Int → Int → Int → Int → Option (Int × Int × Int × Bool)
 | 0, _, _, _, _, _, _, _ => none
 | k + 1, x14, x842000, x842001, x843000, x843001, x843002, x843003 => if x14 = true then (some (0, 0, 0, false)) else (if x842000 = 0 then (kE.j1 k false x842000 x842001 x843000 x843001 x843002 x843003) else (if x843000 = 0 then (kE.j1 k false x842000 x842001 x843000 x843001 x843002 x843003) else (kE.j1 k (x842000 != x843000) x842000 x842001 x843000 x843001 x843002 x843003)))
def kE.j1 : Nat → Bool → Int → Int → Int → Int → Int → Int → Option (Int × Int × Int × Bool)
 | 0, _, _, _, _, _, _, _ => none
 | k + 1, x30, x842000, x842001, x843000, x843001, x843002, x843003 => if x30 = true then (some (0, 0, 10, true)) else (if x842000 = 0 then (some (x843000, 0, 0, true)) else (some (x842000, x842001, 0, true)))
end
def kE.f (k : Nat) (a0_0 : Int) (a0_1 : Int) (a1_0 : Int) (a1_1 : Int) (a1_2 : Int) (a1_3 : Int) : Option (Int × Int × Int × Bool) := if a0_0 = 0 then (kE.j0 k (a1_0 == 0) a0_0 a0_1 a1_0 a1_1 a1_2 a1_3) else (kE.j0 k false a0_0 a0_1 a1_0 a1_1 a1_2 a1_3)
theorem kE.mono_l : ∀ k, (∀ y0 y1 y2 y3 y4 y5 y6, LeO (kE.j0 k y0 y1 y2 y3 y4 y5 y6) (kE.j0 (k + 1) y0 y1 y2 y3 y4 y5 y6)) ∧ (∀ y0 y1 y2 y3 y4 y5 y6, LeO (kE.j1 k y0 y1 y2 y3 y4 y5 y6) (kE.j1 (k + 1) y0 y1 y2 y3 y4 y5 y6))
 | 0 => ⟨fun _ _ _ _ _ _ _ r h => by simp [kE.j0] at h, fun _ _ _ _ _ _ _ r h => by simp [kE.j1] at h⟩
 | k + 1 => by
  obtain ⟨ih0, ih1⟩ := kE.mono_l k
  refine ⟨?_, ?_⟩
  · intro y0 y1 y2 y3 y4 y5 y6
    unfold kE.j0
    repeat' first
    | (with_reducible exact ih0 _ _ _ _ _ _ _)
    | (with_reducible exact ih1 _ _ _ _ _ _ _)
    | (with_reducible exact LeO.refl _)
    | (with_reducible exact LeO.none _)
    | (with_reducible refine LeO.ite ?_ ?_)
    | (with_reducible refine LeO.bind ?_ (fun _ => ?_))
    | exact ih0 _ _ _ _ _ _ _
    | exact ih1 _ _ _ _ _ _ _
    | exact LeO.none _
    | refine LeO.ite ?_ ?_
    | refine LeO.bind ?_ (fun _ => ?_)
  · intro y0 y1 y2 y3 y4 y5 y6
    unfold kE.j1
    repeat' first
    | (with_reducible exact ih0 _ _ _ _ _ _ _)
    | (with_reducible exact ih1 _ _ _ _ _ _ _)
    | (with_reducible exact LeO.refl _)
    | (with_reducible exact LeO.none _)
    | (with_reducible refine LeO.ite ?_ ?_)
    | (with_reducible refine LeO.bind ?_ (fun _ => ?_))
    | exact ih0 _ _ _ _ _ _ _
    | exact ih1 _ _ _ _ _ _ _
    | exact LeO.none _
    | refine LeO.ite ?_ ?_
    | refine LeO.bind ?_ (fun _ => ?_)
theorem kE.mono : ∀ a0 a1 a2 a3 a4 a5 k, LeO (kE.f k a0 a1 a2 a3 a4 a5) (kE.f (k + 1) a0 a1 a2 a3 a4 a5) := by
 intro a0 a1 a2 a3 a4 a5 k
 obtain ⟨ih0, ih1⟩ := kE.mono_l k
 unfold kE.f
 repeat' first
  | (with_reducible exact ih0 _ _ _ _ _ _ _)
  | (with_reducible exact ih1 _ _ _ _ _ _ _)
  | (with_reducible exact LeO.refl _)
  | (with_reducible exact LeO.none _)
  | (with_reducible refine LeO.ite ?_ ?_)
  | (with_reducible refine LeO.bind ?_ (fun _ => ?_))
  | exact ih0 _ _ _ _ _ _ _
  | exact ih1 _ _ _ _ _ _ _
  | exact LeO.none _
  | refine LeO.ite ?_ ?_
  | refine LeO.bind ?_ (fun _ => ?_)
set_option maxRecDepth 100000 in
theorem kE.vc (k : Nat) (a0_0 : Int) (a0_1 : Int) (a1_0 : Int) (a1_1 : Int) (a1_2 : Int) (a1_3 : Int) (K : AV → Prop) : afv PA Tryz.prog (tab []) noLoops 2 46 [.agg [.int .i64 a0_0, .int .i64 a0_1], .agg [.int .i64 a1_0, .int .i64 a1_1, .int .i64 a1_2, .int .i64 a1_3]] K = (brc (a0_0 == 0) (brc (a1_0 == 0) (K (AV.tup [AV.agg [AV.int IntKind.i64 0, AV.int IntKind.i64 0], AV.int IntKind.i64 0, AV.bool false])) (brc (a0_0 != 0) (brc (a1_0 != 0) (brc (a0_0 != a1_0) (K (AV.tup [AV.agg [AV.int IntKind.i64 0, AV.int IntKind.i64 0], AV.int IntKind.i64 10, AV.bool true])) (brc (a0_0 != 0) (K (AV.tup [AV.agg [AV.int IntKind.i64 a0_0, AV.int IntKind.i64 a0_1], AV.int IntKind.i64 0, AV.bool true])) (K (AV.tup [AV.agg [AV.int IntKind.i64 a1_0, AV.int IntKind.i64 0], AV.int IntKind.i64 0, AV.bool true])))) (brc (a0_0 != 0) (K (AV.tup [AV.agg [AV.int IntKind.i64 a0_0, AV.int IntKind.i64 a0_1], AV.int IntKind.i64 0, AV.bool true])) (K (AV.tup [AV.agg [AV.int IntKind.i64 a1_0, AV.int IntKind.i64 0], AV.int IntKind.i64 0, AV.bool true])))) (brc (a0_0 != 0) (K (AV.tup [AV.agg [AV.int IntKind.i64 a0_0, AV.int IntKind.i64 a0_1], AV.int IntKind.i64 0, AV.bool true])) (K (AV.tup [AV.agg [AV.int IntKind.i64 a1_0, AV.int IntKind.i64 0], AV.int IntKind.i64 0, AV.bool true]))))) (brc (a0_0 != 0) (brc (a1_0 != 0) (brc (a0_0 != a1_0) (K (AV.tup [AV.agg [AV.int IntKind.i64 0, AV.int IntKind.i64 0], AV.int IntKind.i64 10, AV.bool true])) (brc (a0_0 != 0) (K (AV.tup [AV.agg [AV.int IntKind.i64 a0_0, AV.int IntKind.i64 a0_1], AV.int IntKind.i64 0, AV.bool true])) (K (AV.tup [AV.agg [AV.int IntKind.i64 a1_0, AV.int IntKind.i64 0], AV.int IntKind.i64 0, AV.bool true])))) (brc (a0_0 != 0) (K (AV.tup [AV.agg [AV.int IntKind.i64 a0_0, AV.int IntKind.i64 a0_1], AV.int IntKind.i64 0, AV.bool true])) (K (AV.tup [AV.agg [AV.int IntKind.i64 a1_0, AV.int IntKind.i64 0], AV.int IntKind.i64 0, AV.bool true])))) (brc (a0_0 != 0) (K (AV.tup [AV.agg [AV.int IntKind.i64 a0_0, AV.int IntKind.i64 a0_1], AV.int IntKind.i64 0, AV.bool true])) (K (AV.tup [AV.agg [AV.int IntKind.i64 a1_0, AV.int IntKind.i64 0], AV.int IntKind.i64 0, AV.bool true]))))) := by kernel_rfl
set_option maxHeartbeats 1000000 in
set_option maxRecDepth 100000 in
theorem kE.calls (k : Nat) (a0_0 : Int) (a0_1 : Int) (a1_0 : Int) (a1_1 : Int) (a1_2 : Int) (a1_3 : Int) (r1 : Int) (r2 : Int) (r3 : Int) (r4 : Bool) (w : World) (h : kE.f k a0_0 a0_1 a1_0 a1_1 a1_2 a1_3 = some (r1, r2, r3, r4)) :
 Calls Tryz.prog 46 #[.agg #[.int .i64 a0_0, .int .i64 a0_1], .agg #[.int .i64 a1_0, .int .i64 a1_1, .int .i64 a1_2, .int .i64 a1_3]] w fun e w' => e = .returned (.tuple #[.agg #[.int .i64 r1, .int .i64 r2], .int .i64 r3, .bool r4]) ∧ Below w.heap.size w w' := by
 refine bZ (A := [.agg #[.int .i64 a0_0, .int .i64 a0_1], .agg #[.int .i64 a1_0, .int .i64 a1_1, .int .i64 a1_2, .int .i64 a1_3]]) (v := .tup [.agg [.int .i64 r1, .int .i64 r2], .int .i64 r3, .bool r4]) (jV) ((kE.vc k a0_0 a0_1 a1_0 a1_1 a1_2 a1_3 _).mpr ?_) (by simp [kG, kK, kL, kH, kS, kM, jR]) (fun ρ V' hV => by simpa [kG, kK, kL, kH, kS, kM, bU] using hV)
 unfold kE.f at h
 cases k with
 | zero =>
  (try simp only [kE.j0, kE.j1] at h)
  (try simp only [bne, Option.bind_eq_some_iff, bS] at h)
  (try simp only [bne, zM, wrap_i64])
  first
   | grind (splits := 60) [kD]
   | ((repeat' (first | (have or_ : Or _ _ := h; clear or_; rcases h with h | h) | (have or_ : Exists _ := h; clear or_; obtain ⟨_, h⟩ := h) | (have or_ : And _ _ := h; clear or_; obtain ⟨hq_, h⟩ := h))) <;> (try simp only [Option.some.injEq, Prod.mk.injEq, reduceCtorEq] at h) <;> (try subst_vars) <;> first | (simp_all [kD] <;> (try omega) <;> done) | grind (splits := 60) [kD])
   | (intros; subst_vars; simp_all [kD]; done)
 | succ k =>
  cases k with
  | zero =>
   (try simp only [kE.j0, kE.j1] at h)
   (try simp only [bne, Option.bind_eq_some_iff, bS] at h)
   (try simp only [bne, zM, wrap_i64])
   first
    | grind (splits := 60) [kD]
    | ((repeat' (first | (have or_ : Or _ _ := h; clear or_; rcases h with h | h) | (have or_ : Exists _ := h; clear or_; obtain ⟨_, h⟩ := h) | (have or_ : And _ _ := h; clear or_; obtain ⟨hq_, h⟩ := h))) <;> (try simp only [Option.some.injEq, Prod.mk.injEq, reduceCtorEq] at h) <;> (try subst_vars) <;> first | (simp_all [kD] <;> (try omega) <;> done) | grind (splits := 60) [kD])
    | (intros; subst_vars; simp_all [kD]; done)
  | succ k =>
   (try simp only [kE.j0, kE.j1] at h)
   (try simp only [bne, Option.bind_eq_some_iff, bS] at h)
   (try simp only [bne, zM, wrap_i64])
   first
    | grind (splits := 60) [kD]
    | ((repeat' (first | (have or_ : Or _ _ := h; clear or_; rcases h with h | h) | (have or_ : Exists _ := h; clear or_; obtain ⟨_, h⟩ := h) | (have or_ : And _ _ := h; clear or_; obtain ⟨hq_, h⟩ := h))) <;> (try simp only [Option.some.injEq, Prod.mk.injEq, reduceCtorEq] at h) <;> (try subst_vars) <;> first | (simp_all [kD] <;> (try omega) <;> done) | grind (splits := 60) [kD])
    | (intros; subst_vars; simp_all [kD]; done)
noncomputable def kE.con (k : Nat) : Con
 | [.agg [.int .i64 a0_0, .int .i64 a0_1], .agg [.int .i64 a1_0, .int .i64 a1_1, .int .i64 a1_2, .int .i64 a1_3]] => some ((kE.f k a0_0 a0_1 a1_0 a1_1 a1_2 a1_3).isSome, .tup [.agg [.int .i64 (gd (kE.f k a0_0 a0_1 a1_0 a1_1 a1_2 a1_3)).1, .int .i64 (gd (kE.f k a0_0 a0_1 a1_0 a1_1 a1_2 a1_3)).2.1], .int .i64 (gd (kE.f k a0_0 a0_1 a1_0 a1_1 a1_2 a1_3)).2.2.1, .bool (gd (kE.f k a0_0 a0_1 a1_0 a1_1 a1_2 a1_3)).2.2.2])
 | _ => none
set_option maxRecDepth 100000 in
theorem kE.cok (k : Nat) : COk Tryz.prog 46 (kE.con k) := by
 intro args p v hc hp w A hA
 unfold kE.con at hc
 split at hc
 · rename_i a0_0 a0_1 a1_0 a1_1 a1_2 a1_3
   simp only [Option.some.injEq, Prod.mk.injEq] at hc
   obtain ⟨rfl, rfl⟩ := hc
   rcases hf : kE.f k a0_0 a0_1 a1_0 a1_1 a1_2 a1_3 with _ | ⟨r1, r2, r3, r4⟩
   · rw [hf] at hp; cases hp
   obtain rfl : A = [.agg #[.int .i64 a0_0, .int .i64 a0_1], .agg #[.int .i64 a1_0, .int .i64 a1_1, .int .i64 a1_2, .int .i64 a1_3]] := by simpa [kG, kK, kL, kH, kS, kM, jR] using hA
   exact kT (fn := Tryz.f46) Tryz.func46 (by kernel_rfl) (by kernel_rfl) (kE.calls _ _ _ _ _ _ _ _ _ _ _ w hf) (fun _ => by simp [kD, kG, kK, kL, kH, kS, kM, bU]) (fun _ h => h)
 · cases hc
theorem kE.up {k : Nat} {a0_0 : Int} {a0_1 : Int} {a1_0 : Int} {a1_1 : Int} {a1_2 : Int} {a1_3 : Int} {r : Int × Int × Int × Bool} (h : kE.f k a0_0 a0_1 a1_0 a1_1 a1_2 a1_3 = some r) : kE.f (k + 1) a0_0 a0_1 a1_0 a1_1 a1_2 a1_3 = some r := kE.mono a0_0 a0_1 a1_0 a1_1 a1_2 a1_3 k _ h
theorem kE.le {a0_0 : Int} {a0_1 : Int} {a1_0 : Int} {a1_1 : Int} {a1_2 : Int} {a1_3 : Int} {r : Int × Int × Int × Bool} {k n : Nat} (h : kE.f k a0_0 a0_1 a1_0 a1_1 a1_2 a1_3 = some r) (hk : k ≤ n) : kE.f n a0_0 a0_1 a1_0 a1_1 a1_2 a1_3 = some r := by
 induction hk with
 | refl => exact h
 | step _ ih => exact kE.up ih
def kV.j0 : Nat → Int → Int → Int → Int → Bool → Option (Int × Int)
 | 0, _, _, _, _, _ => none
 | k + 1, x1, x6, x7, x8, x27 => if x27 = true then (some (0, 10)) else ((zV.f (wrap64 ((wrap64 ((wrap64 ((wrap64 (12 * x6)) + x7)) - 1)) + x1)) 12).bind fun t855 => ((bT.f (wrap64 ((wrap64 ((wrap64 ((wrap64 (12 * x6)) + x7)) - 1)) + x1)) 12).bind fun t856 => ((kC.f k t855 (wrap64 (t856 + 1))).bind fun t857 => (if x8 > t857 then ((kC.f k t855 (wrap64 (t856 + 1))).bind fun t858 => ((jA.f k t855 (wrap64 (t856 + 1)) t858).bind fun bt859 => (some (bt859.1, bt859.2)))) else ((jA.f k t855 (wrap64 (t856 + 1)) x8).bind fun bt861 => (some (bt861.1, bt861.2)))))))
def kV.f (k : Nat) (a0 : Int) (a1 : Int) : Option (Int × Int) := (kB.f k a0).bind fun bt851 => (if bt851.2.2.2 = 0 then (if a1 > 3600000 then (kV.j0 k a1 bt851.1 bt851.2.1 bt851.2.2.1 true) else (kV.j0 k a1 bt851.1 bt851.2.1 bt851.2.2.1 (decide (a1 < (-3600000))))) else (kV.j0 k a1 bt851.1 bt851.2.1 bt851.2.2.1 true))
theorem kV.mono_l : ∀ k, (∀ y0 y1 y2 y3 y4, LeO (kV.j0 k y0 y1 y2 y3 y4) (kV.j0 (k + 1) y0 y1 y2 y3 y4))
 | 0 => fun _ _ _ _ _ r h => by simp [kV.j0] at h
 | k + 1 => by
  have ih0 := kV.mono_l k
  · intro y0 y1 y2 y3 y4
    unfold kV.j0
    repeat' first
    | (with_reducible exact ih0 _ _ _ _ _)
    | (with_reducible exact kB.mono _ _)
    | (with_reducible exact jA.mono _ _ _ _)
    | (with_reducible exact kC.mono _ _ _)
    | (with_reducible exact LeO.refl _)
    | (with_reducible exact LeO.none _)
    | (with_reducible refine LeO.ite ?_ ?_)
    | (with_reducible refine LeO.bind ?_ (fun _ => ?_))
    | exact ih0 _ _ _ _ _
    | exact kB.mono _ _
    | exact jA.mono _ _ _ _
    | exact kC.mono _ _ _
    | exact LeO.none _
    | refine LeO.ite ?_ ?_
    | refine LeO.bind ?_ (fun _ => ?_)
theorem kV.mono : ∀ a0 a1 k, LeO (kV.f k a0 a1) (kV.f (k + 1) a0 a1) := by
 intro a0 a1 k
 have ih0 := kV.mono_l k
 unfold kV.f
 repeat' first
  | (with_reducible exact ih0 _ _ _ _ _)
  | (with_reducible exact kB.mono _ _)
  | (with_reducible exact jA.mono _ _ _ _)
  | (with_reducible exact kC.mono _ _ _)
  | (with_reducible exact LeO.refl _)
  | (with_reducible exact LeO.none _)
  | (with_reducible refine LeO.ite ?_ ?_)
  | (with_reducible refine LeO.bind ?_ (fun _ => ?_))
  | exact ih0 _ _ _ _ _
  | exact kB.mono _ _
  | exact jA.mono _ _ _ _
  | exact kC.mono _ _ _
  | exact LeO.none _
  | refine LeO.ite ?_ ?_
  | refine LeO.bind ?_ (fun _ => ?_)
set_option maxHeartbeats 8000000 in
set_option maxRecDepth 100000 in
theorem kV.calls (k : Nat) (a0 : Int) (a1 : Int) (r1 : Int) (r2 : Int) (w : World) (h : kV.f k a0 a1 = some (r1, r2)) :
 Calls Tryz.prog 126 #[.int .i64 a0, .int .i64 a1] w fun e w' => e = .returned (.tuple #[.int .i64 r1, .int .i64 r2]) ∧ Drawn0 w w' := by
 have H : ((kB.f k a0).bind fun bt851 => (if bt851.2.2.2 = 0 then (if a1 > 3600000 then (kV.j0 k a1 bt851.1 bt851.2.1 bt851.2.2.1 true) else (kV.j0 k a1 bt851.1 bt851.2.1 bt851.2.2.1 (decide (a1 < (-3600000))))) else (kV.j0 k a1 bt851.1 bt851.2.1 bt851.2.2.1 true))) = some (r1, r2) := h
 clear h
 replace H := Option.bind_eq_some_iff.mp H
 obtain ⟨⟨t851, t852, t853, t854⟩, A30, H⟩ := H
 replace H : (if t854 = 0 then (if a1 > 3600000 then (kV.j0 k a1 t851 t852 t853 true) else (kV.j0 k a1 t851 t852 t853 (decide (a1 < (-3600000))))) else (kV.j0 k a1 t851 t852 t853 true)) = some (r1, r2) := H
 have A3 := Aside0.mk A30
 clear A30
 have HC4 := Aside0.mk H
 clear H
 go_enter Tryz.func126, Tryz.ntmps126
 go_upto_region 2 with (first | ((with_reducible refine kW (f := 107) rfl ?_); refine jI (some 13) rfl rfl Tryz.func107 (by kernel_rfl) rfl #[.int .i64 a0] rfl (by (try simp only [List.map_toArray, List.map_cons, List.map_nil]); first | done | rfl | (simp only [List.length_drop, List.length_take]; rfl)) ?_; (with_reducible refine (kB.calls k a0 t851 t852 t853 t854 _ A3.out).mono ?_); rintro e w' ⟨rfl, ⟨nd, rfl⟩⟩; refine ⟨_, rfl, ?_⟩))
 (try simp only [Act.put, List.setIfInBounds_toArray, List.set_cons_zero, List.set_cons_succ])
 go_cut [27] (fun v27 wc => ∃ (kq : Nat) (x27_3 : Bool), v27 = .bool x27_3 ∧ Aside0 (kV.j0 kq a1 t851 t852 t853 x27_3 = some (r1, r2)) ∧ Aside0 (kq ≤ k) ∧ Drawn0 w wc)
 case first =>
  have H := HC4.out
  clear HC4
  by_cases c5 : t854 = 0
  · rw [if_pos c5] at H
    have c5b0 : (t854 == 0) = true := beq_iff_eq.mpr c5
    have c5b1 : (t854 != 0) = false := bne_eq_false_iff_eq.mpr c5
    clear c5
    (first | rw [c5b0] | (simp only [qJ, qL]; rw [c5b0]) | skip)
    by_cases c6 : a1 > 3600000
    · rw [if_pos c6] at H
      have c6b0 : decide (3600000 < a1) = true := decide_eq_true c6
      clear c6
      have H' := Aside0.mk H
      clear H
      go_wp2
      go_meet
      case rel => exact ⟨_, (true), (by first | rfl | (simp; done) | (simp [*]; done)), H', ⟨by first | omega | exact Nat.le_refl _⟩, by repeat (first | exact Drawn0.refl _ | apply Drawn0.step)⟩
    · rw [if_neg c6] at H
      have c6b0 : decide (3600000 < a1) = false := decide_eq_false c6
      clear c6
      have H' := Aside0.mk H
      clear H
      go_wp2
      go_meet
      case rel => exact ⟨_, (decide (a1 < (-3600000))), (by first | rfl | (simp; done) | (simp [*]; done)), H', ⟨by first | omega | exact Nat.le_refl _⟩, by repeat (first | exact Drawn0.refl _ | apply Drawn0.step)⟩
  · rw [if_neg c5] at H
    have c5b0 : (t854 == 0) = false := beq_eq_false_iff_ne.mpr c5
    have c5b1 : (t854 != 0) = true := bne_iff_ne.mpr c5
    (first | rw [c5b0] | (simp only [qJ, qL]; rw [c5b0]) | skip)
    have H' := Aside0.mk H
    clear H
    go_wp2
    go_meet
    case rel => exact ⟨_, (true), (by first | rfl | (simp; done) | (simp [*]; done)), H', ⟨by first | omega | exact Nat.le_refl _⟩, by repeat (first | exact Drawn0.refl _ | apply Drawn0.step)⟩
 case rest =>
  clear HC4
  try clear c1
  try clear p2
  try clear c5
  try clear c5b0
  try clear c5b1
  try clear c6
  try clear c6b0
  obtain ⟨kq, x27_3, rfl, HA, HJ3, ⟨mc3, rfl⟩⟩ := hcut
  cases kq with
  | zero => exact absurd HA.out (by simp [kV.j0])
  | succ kj3 =>
   have H := HA.out
   clear HA
   simp only [kV.j0] at H
   by_cases c7 : x27_3 = true
   · subst c7
     have H1 : (some (0, 10)) = some (r1, r2) := by rw [if_pos rfl] at H; exact H
     clear H
     have H := H1
     clear H1
     simp only [Option.some.injEq, Prod.mk.injEq] at H
     obtain ⟨rfl, rfl⟩ := H
     go_wp2
     go_ret2
     exact ⟨by first | rfl | (simp; done) | (simp [*]; done), by repeat (first | exact Drawn0.refl _ | apply Drawn0.step)⟩
   · replace c7 := Bool.eq_false_iff.mpr c7
     subst c7
     have H1 : ((zV.f (wrap64 ((wrap64 ((wrap64 ((wrap64 (12 * t851)) + t852)) - 1)) + a1)) 12).bind fun t855 => ((bT.f (wrap64 ((wrap64 ((wrap64 ((wrap64 (12 * t851)) + t852)) - 1)) + a1)) 12).bind fun t856 => ((kC.f kj3 t855 (wrap64 (t856 + 1))).bind fun t857 => (if t853 > t857 then ((kC.f kj3 t855 (wrap64 (t856 + 1))).bind fun t858 => ((jA.f kj3 t855 (wrap64 (t856 + 1)) t858).bind fun bt859 => (some (bt859.1, bt859.2)))) else ((jA.f kj3 t855 (wrap64 (t856 + 1)) t853).bind fun bt861 => (some (bt861.1, bt861.2))))))) = some (r1, r2) := by rw [if_neg (show ¬ (false = true) by decide)] at H; exact H
     clear H
     have H := H1
     clear H1
     replace H := Option.bind_eq_some_iff.mp H
     obtain ⟨t855, A80, H⟩ := H
     replace H : ((bT.f (wrap64 ((wrap64 ((wrap64 ((wrap64 (12 * t851)) + t852)) - 1)) + a1)) 12).bind fun t856 => ((kC.f kj3 t855 (wrap64 (t856 + 1))).bind fun t857 => (if t853 > t857 then ((kC.f kj3 t855 (wrap64 (t856 + 1))).bind fun t858 => ((jA.f kj3 t855 (wrap64 (t856 + 1)) t858).bind fun bt859 => (some (bt859.1, bt859.2)))) else ((jA.f kj3 t855 (wrap64 (t856 + 1)) t853).bind fun bt861 => (some (bt861.1, bt861.2)))))) = some (r1, r2) := H
     have A8 := Aside0.mk A80
     clear A80
     replace H := Option.bind_eq_some_iff.mp H
     obtain ⟨t856, A90, H⟩ := H
     replace H : ((kC.f kj3 t855 (wrap64 (t856 + 1))).bind fun t857 => (if t853 > t857 then ((kC.f kj3 t855 (wrap64 (t856 + 1))).bind fun t858 => ((jA.f kj3 t855 (wrap64 (t856 + 1)) t858).bind fun bt859 => (some (bt859.1, bt859.2)))) else ((jA.f kj3 t855 (wrap64 (t856 + 1)) t853).bind fun bt861 => (some (bt861.1, bt861.2))))) = some (r1, r2) := H
     have A9 := Aside0.mk A90
     clear A90
     replace H := Option.bind_eq_some_iff.mp H
     obtain ⟨t857, A100, H⟩ := H
     replace H : (if t853 > t857 then ((kC.f kj3 t855 (wrap64 (t856 + 1))).bind fun t858 => ((jA.f kj3 t855 (wrap64 (t856 + 1)) t858).bind fun bt859 => (some (bt859.1, bt859.2)))) else ((jA.f kj3 t855 (wrap64 (t856 + 1)) t853).bind fun bt861 => (some (bt861.1, bt861.2)))) = some (r1, r2) := H
     have A10 := Aside0.mk A100
     clear A100
     by_cases c11 : t853 > t857
     · rw [if_pos c11] at H
       have c11b0 : decide (t857 < t853) = true := decide_eq_true c11
       clear c11
       replace H := Option.bind_eq_some_iff.mp H
       obtain ⟨t858, A120, H⟩ := H
       replace H : ((jA.f kj3 t855 (wrap64 (t856 + 1)) t858).bind fun bt859 => (some (bt859.1, bt859.2))) = some (r1, r2) := H
       have A12 := Aside0.mk A120
       clear A120
       replace H := Option.bind_eq_some_iff.mp H
       obtain ⟨⟨t859, t860⟩, A130, H⟩ := H
       replace H : (some (t859, t860)) = some (r1, r2) := H
       have A13 := Aside0.mk A130
       clear A130
       simp only [Option.some.injEq, Prod.mk.injEq] at H
       obtain ⟨rfl, rfl⟩ := H
       go_wp2_with (first | ((with_reducible refine kW (f := 140) rfl ?_); refine jI (some 36) rfl rfl Tryz.func140 (by kernel_rfl) rfl #[.int .i64 (wrap64 ((wrap64 ((wrap64 ((wrap64 (12 * t851)) + t852)) - 1)) + a1)), .int .i64 12] rfl (by (try simp only [List.map_toArray, List.map_cons, List.map_nil]); first | done | rfl | (simp only [List.length_drop, List.length_take]; rfl)) ?_; (with_reducible refine (zV.calls (wrap64 ((wrap64 ((wrap64 ((wrap64 (12 * t851)) + t852)) - 1)) + a1)) 12 t855 _ A8.out).mono ?_); rintro e w' ⟨rfl, ⟨nd, rfl⟩⟩; refine ⟨_, rfl, ?_⟩) | ((with_reducible refine kW (f := 141) rfl ?_); refine jI (some 38) rfl rfl Tryz.func141 (by kernel_rfl) rfl #[.int .i64 (wrap64 ((wrap64 ((wrap64 ((wrap64 (12 * t851)) + t852)) - 1)) + a1)), .int .i64 12] rfl (by (try simp only [List.map_toArray, List.map_cons, List.map_nil]); first | done | rfl | (simp only [List.length_drop, List.length_take]; rfl)) ?_; (with_reducible refine (bT.calls (wrap64 ((wrap64 ((wrap64 ((wrap64 (12 * t851)) + t852)) - 1)) + a1)) 12 t856 _ A9.out).mono ?_); rintro e w' ⟨rfl, ⟨nd, rfl⟩⟩; refine ⟨_, rfl, ?_⟩) | ((with_reducible refine kW (f := 143) rfl ?_); refine jI (some 43) rfl rfl Tryz.func143 (by kernel_rfl) rfl #[.int .i64 t855, .int .i64 (wrap64 (t856 + 1))] rfl (by (try simp only [List.map_toArray, List.map_cons, List.map_nil]); first | done | rfl | (simp only [List.length_drop, List.length_take]; rfl)) ?_; (with_reducible refine (kC.calls kj3 t855 (wrap64 (t856 + 1)) t857 _ A10.out).mono ?_); rintro e w' ⟨rfl, ⟨nd, rfl⟩⟩; refine ⟨_, rfl, ?_⟩) | ((with_reducible refine kW (f := 143) rfl ?_); refine jI (some 47) rfl rfl Tryz.func143 (by kernel_rfl) rfl #[.int .i64 t855, .int .i64 (wrap64 (t856 + 1))] rfl (by (try simp only [List.map_toArray, List.map_cons, List.map_nil]); first | done | rfl | (simp only [List.length_drop, List.length_take]; rfl)) ?_; (with_reducible refine (kC.calls kj3 t855 (wrap64 (t856 + 1)) t858 _ A12.out).mono ?_); rintro e w' ⟨rfl, ⟨nd, rfl⟩⟩; refine ⟨_, rfl, ?_⟩) | ((with_reducible refine kW (f := 121) rfl ?_); refine jI (some 51) rfl rfl Tryz.func121 (by kernel_rfl) rfl #[.int .i64 t855, .int .i64 (wrap64 (t856 + 1)), .int .i64 t858] rfl (by (try simp only [List.map_toArray, List.map_cons, List.map_nil]); first | done | rfl | (simp only [List.length_drop, List.length_take]; rfl)) ?_; (with_reducible refine (jA.calls kj3 t855 (wrap64 (t856 + 1)) t858 t859 t860 _ A13.out).mono ?_); rintro e w' ⟨rfl, ⟨nd, rfl⟩⟩; refine ⟨_, rfl, ?_⟩))
       go_ret2
       exact ⟨by first | rfl | (simp; done) | (simp [*]; done), by repeat (first | exact Drawn0.refl _ | apply Drawn0.step)⟩
     · rw [if_neg c11] at H
       have c11b0 : decide (t857 < t853) = false := decide_eq_false c11
       clear c11
       replace H := Option.bind_eq_some_iff.mp H
       obtain ⟨⟨t861, t862⟩, A140, H⟩ := H
       replace H : (some (t861, t862)) = some (r1, r2) := H
       have A14 := Aside0.mk A140
       clear A140
       simp only [Option.some.injEq, Prod.mk.injEq] at H
       obtain ⟨rfl, rfl⟩ := H
       go_wp2_with (first | ((with_reducible refine kW (f := 140) rfl ?_); refine jI (some 36) rfl rfl Tryz.func140 (by kernel_rfl) rfl #[.int .i64 (wrap64 ((wrap64 ((wrap64 ((wrap64 (12 * t851)) + t852)) - 1)) + a1)), .int .i64 12] rfl (by (try simp only [List.map_toArray, List.map_cons, List.map_nil]); first | done | rfl | (simp only [List.length_drop, List.length_take]; rfl)) ?_; (with_reducible refine (zV.calls (wrap64 ((wrap64 ((wrap64 ((wrap64 (12 * t851)) + t852)) - 1)) + a1)) 12 t855 _ A8.out).mono ?_); rintro e w' ⟨rfl, ⟨nd, rfl⟩⟩; refine ⟨_, rfl, ?_⟩) | ((with_reducible refine kW (f := 141) rfl ?_); refine jI (some 38) rfl rfl Tryz.func141 (by kernel_rfl) rfl #[.int .i64 (wrap64 ((wrap64 ((wrap64 ((wrap64 (12 * t851)) + t852)) - 1)) + a1)), .int .i64 12] rfl (by (try simp only [List.map_toArray, List.map_cons, List.map_nil]); first | done | rfl | (simp only [List.length_drop, List.length_take]; rfl)) ?_; (with_reducible refine (bT.calls (wrap64 ((wrap64 ((wrap64 ((wrap64 (12 * t851)) + t852)) - 1)) + a1)) 12 t856 _ A9.out).mono ?_); rintro e w' ⟨rfl, ⟨nd, rfl⟩⟩; refine ⟨_, rfl, ?_⟩) | ((with_reducible refine kW (f := 143) rfl ?_); refine jI (some 43) rfl rfl Tryz.func143 (by kernel_rfl) rfl #[.int .i64 t855, .int .i64 (wrap64 (t856 + 1))] rfl (by (try simp only [List.map_toArray, List.map_cons, List.map_nil]); first | done | rfl | (simp only [List.length_drop, List.length_take]; rfl)) ?_; (with_reducible refine (kC.calls kj3 t855 (wrap64 (t856 + 1)) t857 _ A10.out).mono ?_); rintro e w' ⟨rfl, ⟨nd, rfl⟩⟩; refine ⟨_, rfl, ?_⟩) | ((with_reducible refine kW (f := 121) rfl ?_); refine jI (some 51) rfl rfl Tryz.func121 (by kernel_rfl) rfl #[.int .i64 t855, .int .i64 (wrap64 (t856 + 1)), .int .i64 t853] rfl (by (try simp only [List.map_toArray, List.map_cons, List.map_nil]); first | done | rfl | (simp only [List.length_drop, List.length_take]; rfl)) ?_; (with_reducible refine (jA.calls kj3 t855 (wrap64 (t856 + 1)) t853 t861 t862 _ A14.out).mono ?_); rintro e w' ⟨rfl, ⟨nd, rfl⟩⟩; refine ⟨_, rfl, ?_⟩))
       go_ret2
       exact ⟨by first | rfl | (simp; done) | (simp [*]; done), by repeat (first | exact Drawn0.refl _ | apply Drawn0.step)⟩
noncomputable def kV.con (k : Nat) : Con
 | [.int .i64 a0, .int .i64 a1] => some ((kV.f k a0 a1).isSome, .tup [.int .i64 (gd (kV.f k a0 a1)).1, .int .i64 (gd (kV.f k a0 a1)).2])
 | _ => none
set_option maxRecDepth 100000 in
theorem kV.cok (k : Nat) : COk Tryz.prog 126 (kV.con k) := by
 intro args p v hc hp w A hA
 unfold kV.con at hc
 split at hc
 · rename_i a0 a1
   simp only [Option.some.injEq, Prod.mk.injEq] at hc
   obtain ⟨rfl, rfl⟩ := hc
   rcases hf : kV.f k a0 a1 with _ | ⟨r1, r2⟩
   · rw [hf] at hp; cases hp
   obtain rfl : A = [.int .i64 a0, .int .i64 a1] := by simpa [kG, kK, kL, kH, kS, kM, jR] using hA
   exact kT (fn := Tryz.f126) Tryz.func126 (by kernel_rfl) (by kernel_rfl) (kV.calls _ _ _ _ _ w hf) (fun _ => by simp [kD, kG, kK, kL, kH, kS, kM, bU]) (fun _ h => h.below)
 · cases hc
def bB.f (k : Nat) (a0_0 : Int) (a0_1 : Int) (a1 : Int) : Option (Int × Int × Int) := (kN.f k a0_0 a0_1).bind fun t865 => (if t865 = true then (if a0_0 = 0 then ((kV.f k a0_1 a1).bind fun bt866 => ((bK.f k bt866.1 bt866.2).bind fun bt868 => (some (bt868.1, bt868.2.1, bt868.2.2)))) else (some (a0_0, a0_1, 0))) else (some (0, 0, 1)))
theorem bB.mono : ∀ a0 a1 a2 k, LeO (bB.f k a0 a1 a2) (bB.f (k + 1) a0 a1 a2) := by
 intro a0 a1 a2 k
 unfold bB.f
 repeat' first
  | (with_reducible exact kV.mono _ _ _)
  | (with_reducible exact kN.mono _ _ _)
  | (with_reducible exact bK.mono _ _ _)
  | (with_reducible exact LeO.refl _)
  | (with_reducible exact LeO.none _)
  | (with_reducible refine LeO.ite ?_ ?_)
  | (with_reducible refine LeO.bind ?_ (fun _ => ?_))
  | exact kV.mono _ _ _
  | exact kN.mono _ _ _
  | exact bK.mono _ _ _
  | exact LeO.none _
  | refine LeO.ite ?_ ?_
  | refine LeO.bind ?_ (fun _ => ?_)
set_option maxRecDepth 100000 in
theorem bB.vc (k : Nat) (a0_0 : Int) (a0_1 : Int) (a1 : Int) (K : AV → Prop) : afv PA Tryz.prog (tab [(106, kN.con k), (125, bK.con k), (126, kV.con k)]) noLoops 2 88 [.agg [.int .i64 a0_0, .int .i64 a0_1], .int .i64 a1] K = (brc (Option.isSome (kN.f k a0_0 a0_1)) (∀ (m0 : Bool), m0 = gd (kN.f k a0_0 a0_1) → brc (!m0) (K (AV.tup [AV.agg [AV.int IntKind.i64 0, AV.int IntKind.i64 0], AV.int IntKind.i64 1])) (brc (a0_0 != 0) (K (AV.tup [AV.agg [AV.int IntKind.i64 a0_0, AV.int IntKind.i64 a0_1], AV.int IntKind.i64 0])) (brc (Option.isSome (kV.f k a0_1 a1)) (∀ (m1 : Int), m1 = Prod.fst (gd (kV.f k a0_1 a1)) → ∀ (m2 : Int), m2 = Prod.snd (gd (kV.f k a0_1 a1)) → brc (Option.isSome (bK.f k m1 m2)) (∀ (m3 : Int), m3 = Prod.fst (gd (bK.f k m1 m2)) → ∀ (m4 : Int), m4 = Prod.fst (Prod.snd (gd (bK.f k m1 m2))) → ∀ (m5 : Int), m5 = Prod.snd (Prod.snd (gd (bK.f k m1 m2))) → K (AV.tup [AV.agg [AV.int IntKind.i64 m3, AV.int IntKind.i64 m4], AV.int IntKind.i64 m5])) False) False))) False) := by kernel_rfl
set_option maxHeartbeats 1000000 in
set_option maxRecDepth 100000 in
theorem bB.calls (k : Nat) (a0_0 : Int) (a0_1 : Int) (a1 : Int) (r1 : Int) (r2 : Int) (r3 : Int) (w : World) (h : bB.f k a0_0 a0_1 a1 = some (r1, r2, r3)) :
 Calls Tryz.prog 88 #[.agg #[.int .i64 a0_0, .int .i64 a0_1], .int .i64 a1] w fun e w' => e = .returned (.tuple #[.agg #[.int .i64 r1, .int .i64 r2], .int .i64 r3]) ∧ Below w.heap.size w w' := by
 refine bZ (A := [.agg #[.int .i64 a0_0, .int .i64 a0_1], .int .i64 a1]) (v := .tup [.agg [.int .i64 r1, .int .i64 r2], .int .i64 r3]) (kP (kN.cok k) (kP (bK.cok k) (kP (kV.cok k) (jV)))) ((bB.vc k a0_0 a0_1 a1 _).mpr ?_) (by simp [kG, kK, kL, kH, kS, kM, jR]) (fun ρ V' hV => by simpa [kG, kK, kL, kH, kS, kM, bU] using hV)
 unfold bB.f at h
 (try simp only [bne, Option.bind_eq_some_iff, bS] at h)
 (try simp only [bne, zM, wrap_i64])
 first
  | grind (splits := 60) [kD]
  | ((repeat' (first | (have or_ : Or _ _ := h; clear or_; rcases h with h | h) | (have or_ : Exists _ := h; clear or_; obtain ⟨_, h⟩ := h) | (have or_ : And _ _ := h; clear or_; obtain ⟨hq_, h⟩ := h))) <;> (try simp only [Option.some.injEq, Prod.mk.injEq, reduceCtorEq] at h) <;> (try subst_vars) <;> first | (simp_all [kD] <;> (try omega) <;> done) | grind (splits := 60) [kD])
  | (intros; subst_vars; simp_all [kD]; done)
noncomputable def bB.con (k : Nat) : Con
 | [.agg [.int .i64 a0_0, .int .i64 a0_1], .int .i64 a1] => some ((bB.f k a0_0 a0_1 a1).isSome, .tup [.agg [.int .i64 (gd (bB.f k a0_0 a0_1 a1)).1, .int .i64 (gd (bB.f k a0_0 a0_1 a1)).2.1], .int .i64 (gd (bB.f k a0_0 a0_1 a1)).2.2])
 | _ => none
set_option maxRecDepth 100000 in
theorem bB.cok (k : Nat) : COk Tryz.prog 88 (bB.con k) := by
 intro args p v hc hp w A hA
 unfold bB.con at hc
 split at hc
 · rename_i a0_0 a0_1 a1
   simp only [Option.some.injEq, Prod.mk.injEq] at hc
   obtain ⟨rfl, rfl⟩ := hc
   rcases hf : bB.f k a0_0 a0_1 a1 with _ | ⟨r1, r2, r3⟩
   · rw [hf] at hp; cases hp
   obtain rfl : A = [.agg #[.int .i64 a0_0, .int .i64 a0_1], .int .i64 a1] := by simpa [kG, kK, kL, kH, kS, kM, jR] using hA
   exact kT (fn := Tryz.f88) Tryz.func88 (by kernel_rfl) (by kernel_rfl) (bB.calls _ _ _ _ _ _ _ w hf) (fun _ => by simp [kD, kG, kK, kL, kH, kS, kM, bU]) (fun _ h => h)
 · cases hc
theorem bB.up {k : Nat} {a0_0 : Int} {a0_1 : Int} {a1 : Int} {r : Int × Int × Int} (h : bB.f k a0_0 a0_1 a1 = some r) : bB.f (k + 1) a0_0 a0_1 a1 = some r := bB.mono a0_0 a0_1 a1 k _ h
theorem bB.le {a0_0 : Int} {a0_1 : Int} {a1 : Int} {r : Int × Int × Int} {k n : Nat} (h : bB.f k a0_0 a0_1 a1 = some r) (hk : k ≤ n) : bB.f n a0_0 a0_1 a1 = some r := by
 induction hk with
 | refl => exact h
 | step _ ih => exact bB.up ih
def bE.f (k : Nat) (a0_0 : Int) (a0_1 : Int) (a1 : Int) : Option (Int × Int × Int) := (kN.f k a0_0 a0_1).bind fun t873 => (if t873 = true then (if a0_0 = 0 then ((bV.f k a0_1 a1).bind fun bt874 => ((bK.f k bt874.1 bt874.2).bind fun bt876 => (some (bt876.1, bt876.2.1, bt876.2.2)))) else (some (a0_0, a0_1, 0))) else (some (0, 0, 1)))
theorem bE.mono : ∀ a0 a1 a2 k, LeO (bE.f k a0 a1 a2) (bE.f (k + 1) a0 a1 a2) := by
 intro a0 a1 a2 k
 unfold bE.f
 repeat' first
  | (with_reducible exact bV.mono _ _ _)
  | (with_reducible exact kN.mono _ _ _)
  | (with_reducible exact bK.mono _ _ _)
  | (with_reducible exact LeO.refl _)
  | (with_reducible exact LeO.none _)
  | (with_reducible refine LeO.ite ?_ ?_)
  | (with_reducible refine LeO.bind ?_ (fun _ => ?_))
  | exact bV.mono _ _ _
  | exact kN.mono _ _ _
  | exact bK.mono _ _ _
  | exact LeO.none _
  | refine LeO.ite ?_ ?_
  | refine LeO.bind ?_ (fun _ => ?_)
set_option maxRecDepth 100000 in
theorem bE.vc (k : Nat) (a0_0 : Int) (a0_1 : Int) (a1 : Int) (K : AV → Prop) : afv PA Tryz.prog (tab [(90, bV.con k), (106, kN.con k), (125, bK.con k)]) noLoops 2 89 [.agg [.int .i64 a0_0, .int .i64 a0_1], .int .i64 a1] K = (brc (Option.isSome (kN.f k a0_0 a0_1)) (∀ (m0 : Bool), m0 = gd (kN.f k a0_0 a0_1) → brc (!m0) (K (AV.tup [AV.agg [AV.int IntKind.i64 0, AV.int IntKind.i64 0], AV.int IntKind.i64 1])) (brc (a0_0 != 0) (K (AV.tup [AV.agg [AV.int IntKind.i64 a0_0, AV.int IntKind.i64 a0_1], AV.int IntKind.i64 0])) (brc (Option.isSome (bV.f k a0_1 a1)) (∀ (m1 : Int), m1 = Prod.fst (gd (bV.f k a0_1 a1)) → ∀ (m2 : Int), m2 = Prod.snd (gd (bV.f k a0_1 a1)) → brc (Option.isSome (bK.f k m1 m2)) (∀ (m3 : Int), m3 = Prod.fst (gd (bK.f k m1 m2)) → ∀ (m4 : Int), m4 = Prod.fst (Prod.snd (gd (bK.f k m1 m2))) → ∀ (m5 : Int), m5 = Prod.snd (Prod.snd (gd (bK.f k m1 m2))) → K (AV.tup [AV.agg [AV.int IntKind.i64 m3, AV.int IntKind.i64 m4], AV.int IntKind.i64 m5])) False) False))) False) := by kernel_rfl
set_option maxHeartbeats 1000000 in
set_option maxRecDepth 100000 in
theorem bE.calls (k : Nat) (a0_0 : Int) (a0_1 : Int) (a1 : Int) (r1 : Int) (r2 : Int) (r3 : Int) (w : World) (h : bE.f k a0_0 a0_1 a1 = some (r1, r2, r3)) :
 Calls Tryz.prog 89 #[.agg #[.int .i64 a0_0, .int .i64 a0_1], .int .i64 a1] w fun e w' => e = .returned (.tuple #[.agg #[.int .i64 r1, .int .i64 r2], .int .i64 r3]) ∧ Below w.heap.size w w' := by
 refine bZ (A := [.agg #[.int .i64 a0_0, .int .i64 a0_1], .int .i64 a1]) (v := .tup [.agg [.int .i64 r1, .int .i64 r2], .int .i64 r3]) (kP (bV.cok k) (kP (kN.cok k) (kP (bK.cok k) (jV)))) ((bE.vc k a0_0 a0_1 a1 _).mpr ?_) (by simp [kG, kK, kL, kH, kS, kM, jR]) (fun ρ V' hV => by simpa [kG, kK, kL, kH, kS, kM, bU] using hV)
 unfold bE.f at h
 (try simp only [bne, Option.bind_eq_some_iff, bS] at h)
 (try simp only [bne, zM, wrap_i64])
 first
  | grind (splits := 60) [kD]
  | ((repeat' (first | (have or_ : Or _ _ := h; clear or_; rcases h with h | h) | (have or_ : Exists _ := h; clear or_; obtain ⟨_, h⟩ := h) | (have or_ : And _ _ := h; clear or_; obtain ⟨hq_, h⟩ := h))) <;> (try simp only [Option.some.injEq, Prod.mk.injEq, reduceCtorEq] at h) <;> (try subst_vars) <;> first | (simp_all [kD] <;> (try omega) <;> done) | grind (splits := 60) [kD])
  | (intros; subst_vars; simp_all [kD]; done)
noncomputable def bE.con (k : Nat) : Con
 | [.agg [.int .i64 a0_0, .int .i64 a0_1], .int .i64 a1] => some ((bE.f k a0_0 a0_1 a1).isSome, .tup [.agg [.int .i64 (gd (bE.f k a0_0 a0_1 a1)).1, .int .i64 (gd (bE.f k a0_0 a0_1 a1)).2.1], .int .i64 (gd (bE.f k a0_0 a0_1 a1)).2.2])
 | _ => none
set_option maxRecDepth 100000 in
theorem bE.cok (k : Nat) : COk Tryz.prog 89 (bE.con k) := by
 intro args p v hc hp w A hA
 unfold bE.con at hc
 split at hc
 · rename_i a0_0 a0_1 a1
   simp only [Option.some.injEq, Prod.mk.injEq] at hc
   obtain ⟨rfl, rfl⟩ := hc
   rcases hf : bE.f k a0_0 a0_1 a1 with _ | ⟨r1, r2, r3⟩
   · rw [hf] at hp; cases hp
   obtain rfl : A = [.agg #[.int .i64 a0_0, .int .i64 a0_1], .int .i64 a1] := by simpa [kG, kK, kL, kH, kS, kM, jR] using hA
   exact kT (fn := Tryz.f89) Tryz.func89 (by kernel_rfl) (by kernel_rfl) (bE.calls _ _ _ _ _ _ _ w hf) (fun _ => by simp [kD, kG, kK, kL, kH, kS, kM, bU]) (fun _ h => h)
 · cases hc
theorem bE.up {k : Nat} {a0_0 : Int} {a0_1 : Int} {a1 : Int} {r : Int × Int × Int} (h : bE.f k a0_0 a0_1 a1 = some r) : bE.f (k + 1) a0_0 a0_1 a1 = some r := bE.mono a0_0 a0_1 a1 k _ h
theorem bE.le {a0_0 : Int} {a0_1 : Int} {a1 : Int} {r : Int × Int × Int} {k n : Nat} (h : bE.f k a0_0 a0_1 a1 = some r) (hk : k ≤ n) : bE.f n a0_0 a0_1 a1 = some r := by
 induction hk with
 | refl => exact h
 | step _ ih => exact bE.up ih
def kX.j0 : Nat → Int → Int → Int → Int → Int → Int → Int → Option (Int × Int × Int)
 | 0, _, _, _, _, _, _, _ => none
 | k + 1, x7, x881000, x881001, x881002, x881003, x887000, x887001 => (bE.f k x887000 x887001 x881002).bind fun bt890 => (if bt890.2.2 = 0 then ((kI.f k bt890.1 bt890.2.1 x7).bind fun bt893 => (some (bt893.1, bt893.2.1, bt893.2.2))) else (some (0, 0, bt890.2.2)))
def kX.f (k : Nat) (a0_0 : Int) (a0_1 : Int) (a1_0 : Int) (a1_1 : Int) (a1_2 : Int) (a1_3 : Int) : Option (Int × Int × Int) := (kZ.f k a0_0 a0_1).bind fun bt882 => (if a1_1 = 0 then (kX.j0 k bt882.2.2.1 a1_0 a1_1 a1_2 a1_3 bt882.1 bt882.2.1) else ((bB.f k bt882.1 bt882.2.1 a1_1).bind fun bt887 => (if bt887.2.2 = 0 then (kX.j0 k bt882.2.2.1 a1_0 a1_1 a1_2 a1_3 bt887.1 bt887.2.1) else (some (0, 0, bt887.2.2)))))
theorem kX.mono_l : ∀ k, (∀ y0 y1 y2 y3 y4 y5 y6, LeO (kX.j0 k y0 y1 y2 y3 y4 y5 y6) (kX.j0 (k + 1) y0 y1 y2 y3 y4 y5 y6))
 | 0 => fun _ _ _ _ _ _ _ r h => by simp [kX.j0] at h
 | k + 1 => by
  have ih0 := kX.mono_l k
  · intro y0 y1 y2 y3 y4 y5 y6
    unfold kX.j0
    repeat' first
    | (with_reducible exact ih0 _ _ _ _ _ _ _)
    | (with_reducible exact bE.mono _ _ _ _)
    | (with_reducible exact kZ.mono _ _ _)
    | (with_reducible exact bB.mono _ _ _ _)
    | (with_reducible exact kI.mono _ _ _ _)
    | (with_reducible exact LeO.refl _)
    | (with_reducible exact LeO.none _)
    | (with_reducible refine LeO.ite ?_ ?_)
    | (with_reducible refine LeO.bind ?_ (fun _ => ?_))
    | exact ih0 _ _ _ _ _ _ _
    | exact bE.mono _ _ _ _
    | exact kZ.mono _ _ _
    | exact bB.mono _ _ _ _
    | exact kI.mono _ _ _ _
    | exact LeO.none _
    | refine LeO.ite ?_ ?_
    | refine LeO.bind ?_ (fun _ => ?_)
theorem kX.mono : ∀ a0 a1 a2 a3 a4 a5 k, LeO (kX.f k a0 a1 a2 a3 a4 a5) (kX.f (k + 1) a0 a1 a2 a3 a4 a5) := by
 intro a0 a1 a2 a3 a4 a5 k
 have ih0 := kX.mono_l k
 unfold kX.f
 repeat' first
  | (with_reducible exact ih0 _ _ _ _ _ _ _)
  | (with_reducible exact bE.mono _ _ _ _)
  | (with_reducible exact kZ.mono _ _ _)
  | (with_reducible exact bB.mono _ _ _ _)
  | (with_reducible exact kI.mono _ _ _ _)
  | (with_reducible exact LeO.refl _)
  | (with_reducible exact LeO.none _)
  | (with_reducible refine LeO.ite ?_ ?_)
  | (with_reducible refine LeO.bind ?_ (fun _ => ?_))
  | exact ih0 _ _ _ _ _ _ _
  | exact bE.mono _ _ _ _
  | exact kZ.mono _ _ _
  | exact bB.mono _ _ _ _
  | exact kI.mono _ _ _ _
  | exact LeO.none _
  | refine LeO.ite ?_ ?_
  | refine LeO.bind ?_ (fun _ => ?_)
set_option maxRecDepth 100000 in
theorem kX.vc (k : Nat) (a0_0 : Int) (a0_1 : Int) (a1_0 : Int) (a1_1 : Int) (a1_2 : Int) (a1_3 : Int) (K : AV → Prop) : afv PA Tryz.prog (tab [(60, kZ.con k), (82, kI.con k), (88, bB.con k), (89, bE.con k)]) noLoops 2 47 [.agg [.int .i64 a0_0, .int .i64 a0_1], .agg [.int .i64 a1_0, .int .i64 a1_1, .int .i64 a1_2, .int .i64 a1_3]] K = (brc (Option.isSome (kZ.f k a0_0 a0_1)) (∀ (m0 : Int), m0 = Prod.fst (gd (kZ.f k a0_0 a0_1)) → ∀ (m1 : Int), m1 = Prod.fst (Prod.snd (gd (kZ.f k a0_0 a0_1))) → ∀ (m2 : Int), m2 = Prod.fst (Prod.snd (Prod.snd (gd (kZ.f k a0_0 a0_1)))) → ∀ (m3 : Int), m3 = Prod.snd (Prod.snd (Prod.snd (gd (kZ.f k a0_0 a0_1)))) → brc (a1_1 != 0) (brc (Option.isSome (bB.f k m0 m1 a1_1)) (∀ (m4 : Int), m4 = Prod.fst (gd (bB.f k m0 m1 a1_1)) → ∀ (m5 : Int), m5 = Prod.fst (Prod.snd (gd (bB.f k m0 m1 a1_1))) → ∀ (m6 : Int), m6 = Prod.snd (Prod.snd (gd (bB.f k m0 m1 a1_1))) → brc (m6 != 0) (K (AV.tup [AV.agg [AV.int IntKind.i64 0, AV.int IntKind.i64 0], AV.int IntKind.i64 m6])) (brc (Option.isSome (bE.f k m4 m5 a1_2)) (∀ (m7 : Int), m7 = Prod.fst (gd (bE.f k m4 m5 a1_2)) → ∀ (m8 : Int), m8 = Prod.fst (Prod.snd (gd (bE.f k m4 m5 a1_2))) → ∀ (m9 : Int), m9 = Prod.snd (Prod.snd (gd (bE.f k m4 m5 a1_2))) → brc (m9 != 0) (K (AV.tup [AV.agg [AV.int IntKind.i64 0, AV.int IntKind.i64 0], AV.int IntKind.i64 m9])) (brc (Option.isSome (kI.f k m7 m8 m2)) (∀ (m10 : Int), m10 = Prod.fst (gd (kI.f k m7 m8 m2)) → ∀ (m11 : Int), m11 = Prod.fst (Prod.snd (gd (kI.f k m7 m8 m2))) → ∀ (m12 : Int), m12 = Prod.snd (Prod.snd (gd (kI.f k m7 m8 m2))) → K (AV.tup [AV.agg [AV.int IntKind.i64 m10, AV.int IntKind.i64 m11], AV.int IntKind.i64 m12])) False)) False)) False) (brc (Option.isSome (bE.f k m0 m1 a1_2)) (∀ (m4 : Int), m4 = Prod.fst (gd (bE.f k m0 m1 a1_2)) → ∀ (m5 : Int), m5 = Prod.fst (Prod.snd (gd (bE.f k m0 m1 a1_2))) → ∀ (m6 : Int), m6 = Prod.snd (Prod.snd (gd (bE.f k m0 m1 a1_2))) → brc (m6 != 0) (K (AV.tup [AV.agg [AV.int IntKind.i64 0, AV.int IntKind.i64 0], AV.int IntKind.i64 m6])) (brc (Option.isSome (kI.f k m4 m5 m2)) (∀ (m7 : Int), m7 = Prod.fst (gd (kI.f k m4 m5 m2)) → ∀ (m8 : Int), m8 = Prod.fst (Prod.snd (gd (kI.f k m4 m5 m2))) → ∀ (m9 : Int), m9 = Prod.snd (Prod.snd (gd (kI.f k m4 m5 m2))) → K (AV.tup [AV.agg [AV.int IntKind.i64 m7, AV.int IntKind.i64 m8], AV.int IntKind.i64 m9])) False)) False)) False) := by kernel_rfl
set_option maxHeartbeats 1000000 in
set_option maxRecDepth 100000 in
theorem kX.calls (k : Nat) (a0_0 : Int) (a0_1 : Int) (a1_0 : Int) (a1_1 : Int) (a1_2 : Int) (a1_3 : Int) (r1 : Int) (r2 : Int) (r3 : Int) (w : World) (h : kX.f k a0_0 a0_1 a1_0 a1_1 a1_2 a1_3 = some (r1, r2, r3)) :
 Calls Tryz.prog 47 #[.agg #[.int .i64 a0_0, .int .i64 a0_1], .agg #[.int .i64 a1_0, .int .i64 a1_1, .int .i64 a1_2, .int .i64 a1_3]] w fun e w' => e = .returned (.tuple #[.agg #[.int .i64 r1, .int .i64 r2], .int .i64 r3]) ∧ Below w.heap.size w w' := by
 refine bZ (A := [.agg #[.int .i64 a0_0, .int .i64 a0_1], .agg #[.int .i64 a1_0, .int .i64 a1_1, .int .i64 a1_2, .int .i64 a1_3]]) (v := .tup [.agg [.int .i64 r1, .int .i64 r2], .int .i64 r3]) (kP (kZ.cok k) (kP (kI.cok k) (kP (bB.cok k) (kP (bE.cok k) (jV))))) ((kX.vc k a0_0 a0_1 a1_0 a1_1 a1_2 a1_3 _).mpr ?_) (by simp [kG, kK, kL, kH, kS, kM, jR]) (fun ρ V' hV => by simpa [kG, kK, kL, kH, kS, kM, bU] using hV)
 unfold kX.f at h
 cases k with
 | zero =>
  (try simp only [kX.j0] at h)
  (try simp only [bne, Option.bind_eq_some_iff, bS] at h)
  (try simp only [bne, zM, wrap_i64])
  first
   | grind (splits := 60) [kD]
   | ((repeat' (first | (have or_ : Or _ _ := h; clear or_; rcases h with h | h) | (have or_ : Exists _ := h; clear or_; obtain ⟨_, h⟩ := h) | (have or_ : And _ _ := h; clear or_; obtain ⟨hq_, h⟩ := h))) <;> (try simp only [Option.some.injEq, Prod.mk.injEq, reduceCtorEq] at h) <;> (try subst_vars) <;> first | (simp_all [kD] <;> (try omega) <;> done) | grind (splits := 60) [kD])
   | (intros; subst_vars; simp_all [kD]; done)
 | succ k =>
  (try simp only [kX.j0] at h)
  (try simp only [bne, Option.bind_eq_some_iff, bS] at h)
  (try simp only [bne, zM, wrap_i64])
  first
   | grind (splits := 60) [kD, kZ.up, kI.up, bB.up, bE.up]
   | ((repeat' (first | (have or_ : Or _ _ := h; clear or_; rcases h with h | h) | (have or_ : Exists _ := h; clear or_; obtain ⟨_, h⟩ := h) | (have or_ : And _ _ := h; clear or_; obtain ⟨hq_, h⟩ := h; (try first | replace hq_ := kZ.le (n := k + 1) hq_ (by omega) | replace hq_ := kI.le (n := k + 1) hq_ (by omega) | replace hq_ := bB.le (n := k + 1) hq_ (by omega) | replace hq_ := bE.le (n := k + 1) hq_ (by omega))))) <;> (try simp only [Option.some.injEq, Prod.mk.injEq, reduceCtorEq] at h) <;> (try subst_vars) <;> first | (simp_all [kD] <;> (try omega) <;> done) | grind (splits := 60) [kD, kZ.up, kI.up, bB.up, bE.up])
   | (intros; subst_vars; simp_all [kD]; done)
noncomputable def kX.con (k : Nat) : Con
 | [.agg [.int .i64 a0_0, .int .i64 a0_1], .agg [.int .i64 a1_0, .int .i64 a1_1, .int .i64 a1_2, .int .i64 a1_3]] => some ((kX.f k a0_0 a0_1 a1_0 a1_1 a1_2 a1_3).isSome, .tup [.agg [.int .i64 (gd (kX.f k a0_0 a0_1 a1_0 a1_1 a1_2 a1_3)).1, .int .i64 (gd (kX.f k a0_0 a0_1 a1_0 a1_1 a1_2 a1_3)).2.1], .int .i64 (gd (kX.f k a0_0 a0_1 a1_0 a1_1 a1_2 a1_3)).2.2])
 | _ => none
set_option maxRecDepth 100000 in
theorem kX.cok (k : Nat) : COk Tryz.prog 47 (kX.con k) := by
 intro args p v hc hp w A hA
 unfold kX.con at hc
 split at hc
 · rename_i a0_0 a0_1 a1_0 a1_1 a1_2 a1_3
   simp only [Option.some.injEq, Prod.mk.injEq] at hc
   obtain ⟨rfl, rfl⟩ := hc
   rcases hf : kX.f k a0_0 a0_1 a1_0 a1_1 a1_2 a1_3 with _ | ⟨r1, r2, r3⟩
   · rw [hf] at hp; cases hp
   obtain rfl : A = [.agg #[.int .i64 a0_0, .int .i64 a0_1], .agg #[.int .i64 a1_0, .int .i64 a1_1, .int .i64 a1_2, .int .i64 a1_3]] := by simpa [kG, kK, kL, kH, kS, kM, jR] using hA
   exact kT (fn := Tryz.f47) Tryz.func47 (by kernel_rfl) (by kernel_rfl) (kX.calls _ _ _ _ _ _ _ _ _ _ w hf) (fun _ => by simp [kD, kG, kK, kL, kH, kS, kM, bU]) (fun _ h => h)
 · cases hc
theorem kX.up {k : Nat} {a0_0 : Int} {a0_1 : Int} {a1_0 : Int} {a1_1 : Int} {a1_2 : Int} {a1_3 : Int} {r : Int × Int × Int} (h : kX.f k a0_0 a0_1 a1_0 a1_1 a1_2 a1_3 = some r) : kX.f (k + 1) a0_0 a0_1 a1_0 a1_1 a1_2 a1_3 = some r := kX.mono a0_0 a0_1 a1_0 a1_1 a1_2 a1_3 k _ h
theorem kX.le {a0_0 : Int} {a0_1 : Int} {a1_0 : Int} {a1_1 : Int} {a1_2 : Int} {a1_3 : Int} {r : Int × Int × Int} {k n : Nat} (h : kX.f k a0_0 a0_1 a1_0 a1_1 a1_2 a1_3 = some r) (hk : k ≤ n) : kX.f n a0_0 a0_1 a1_0 a1_1 a1_2 a1_3 = some r := by
 induction hk with
 | refl => exact h
 | step _ ih => exact kX.up ih
def jL.j0 : Nat → Bool → Int → Int → Int → Int → Int → Int → Option (Int × Int × Int)
 | 0, _, _, _, _, _, _, _ => none
 | k + 1, x18, x897000, x897001, x898000, x898001, x898002, x898003 => if x18 = true then (some (0, 0, 1)) else ((kE.f k x897000 x897001 x898000 x898001 x898002 x898003).bind fun bt901 => (if bt901.2.2.2 = true then (some (bt901.1, bt901.2.1, bt901.2.2.1)) else ((kX.f k x897000 x897001 x898000 x898001 x898002 x898003).bind fun bt906 => ((bJ.f k bt906.1 bt906.2.1 bt906.2.2 x898003).bind fun bt910 => (some (bt910.1, bt910.2.1, bt910.2.2))))))
def jL.f (k : Nat) (a0_0 : Int) (a0_1 : Int) (a1_0 : Int) (a1_1 : Int) (a1_2 : Int) (a1_3 : Int) : Option (Int × Int × Int) := (kA.f k a0_0 a0_1).bind fun t899 => (if t899 = true then ((jB.f a1_0 a1_1 a1_2 a1_3).bind fun t900 => (jL.j0 k (!t900) a0_0 a0_1 a1_0 a1_1 a1_2 a1_3)) else (jL.j0 k true a0_0 a0_1 a1_0 a1_1 a1_2 a1_3))
set_option maxRecDepth 100000 in
theorem jL.vc (k : Nat) (a0_0 : Int) (a0_1 : Int) (a1_0 : Int) (a1_1 : Int) (a1_2 : Int) (a1_3 : Int) (K : AV → Prop) : afv PA Tryz.prog (tab [(30, kA.con k), (45, jB.con), (46, kE.con k), (47, kX.con k), (48, bJ.con k)]) noLoops 2 18 [.agg [.int .i64 a0_0, .int .i64 a0_1], .agg [.int .i64 a1_0, .int .i64 a1_1, .int .i64 a1_2, .int .i64 a1_3]] K = (brc (Option.isSome (kA.f k a0_0 a0_1)) (∀ (m0 : Bool), m0 = gd (kA.f k a0_0 a0_1) → brc (!m0) (K (AV.tup [AV.agg [AV.int IntKind.i64 0, AV.int IntKind.i64 0], AV.int IntKind.i64 1])) (brc (Option.isSome (jB.f a1_0 a1_1 a1_2 a1_3)) (∀ (m1 : Bool), m1 = gd (jB.f a1_0 a1_1 a1_2 a1_3) → brc (!m1) (K (AV.tup [AV.agg [AV.int IntKind.i64 0, AV.int IntKind.i64 0], AV.int IntKind.i64 1])) (brc (Option.isSome (kE.f k a0_0 a0_1 a1_0 a1_1 a1_2 a1_3)) (∀ (m2 : Int), m2 = Prod.fst (gd (kE.f k a0_0 a0_1 a1_0 a1_1 a1_2 a1_3)) → ∀ (m3 : Int), m3 = Prod.fst (Prod.snd (gd (kE.f k a0_0 a0_1 a1_0 a1_1 a1_2 a1_3))) → ∀ (m4 : Int), m4 = Prod.fst (Prod.snd (Prod.snd (gd (kE.f k a0_0 a0_1 a1_0 a1_1 a1_2 a1_3)))) → ∀ (m5 : Bool), m5 = Prod.snd (Prod.snd (Prod.snd (gd (kE.f k a0_0 a0_1 a1_0 a1_1 a1_2 a1_3)))) → brc m5 (K (AV.tup [AV.agg [AV.int IntKind.i64 m2, AV.int IntKind.i64 m3], AV.int IntKind.i64 m4])) (brc (Option.isSome (kX.f k a0_0 a0_1 a1_0 a1_1 a1_2 a1_3)) (∀ (m6 : Int), m6 = Prod.fst (gd (kX.f k a0_0 a0_1 a1_0 a1_1 a1_2 a1_3)) → ∀ (m7 : Int), m7 = Prod.fst (Prod.snd (gd (kX.f k a0_0 a0_1 a1_0 a1_1 a1_2 a1_3))) → ∀ (m8 : Int), m8 = Prod.snd (Prod.snd (gd (kX.f k a0_0 a0_1 a1_0 a1_1 a1_2 a1_3))) → brc (Option.isSome (bJ.f k m6 m7 m8 a1_3)) (∀ (m9 : Int), m9 = Prod.fst (gd (bJ.f k m6 m7 m8 a1_3)) → ∀ (m10 : Int), m10 = Prod.fst (Prod.snd (gd (bJ.f k m6 m7 m8 a1_3))) → ∀ (m11 : Int), m11 = Prod.snd (Prod.snd (gd (bJ.f k m6 m7 m8 a1_3))) → K (AV.tup [AV.agg [AV.int IntKind.i64 m9, AV.int IntKind.i64 m10], AV.int IntKind.i64 m11])) False) False)) False)) False)) False) := by kernel_rfl
set_option maxHeartbeats 1000000 in
set_option maxRecDepth 100000 in
theorem jL.calls (k : Nat) (a0_0 : Int) (a0_1 : Int) (a1_0 : Int) (a1_1 : Int) (a1_2 : Int) (a1_3 : Int) (r1 : Int) (r2 : Int) (r3 : Int) (w : World) (h : jL.f k a0_0 a0_1 a1_0 a1_1 a1_2 a1_3 = some (r1, r2, r3)) :
 Calls Tryz.prog 18 #[.agg #[.int .i64 a0_0, .int .i64 a0_1], .agg #[.int .i64 a1_0, .int .i64 a1_1, .int .i64 a1_2, .int .i64 a1_3]] w fun e w' => e = .returned (.tuple #[.agg #[.int .i64 r1, .int .i64 r2], .int .i64 r3]) ∧ Below w.heap.size w w' := by
 refine bZ (A := [.agg #[.int .i64 a0_0, .int .i64 a0_1], .agg #[.int .i64 a1_0, .int .i64 a1_1, .int .i64 a1_2, .int .i64 a1_3]]) (v := .tup [.agg [.int .i64 r1, .int .i64 r2], .int .i64 r3]) (kP (kA.cok k) (kP (jB.cok) (kP (kE.cok k) (kP (kX.cok k) (kP (bJ.cok k) (jV)))))) ((jL.vc k a0_0 a0_1 a1_0 a1_1 a1_2 a1_3 _).mpr ?_) (by simp [kG, kK, kL, kH, kS, kM, jR]) (fun ρ V' hV => by simpa [kG, kK, kL, kH, kS, kM, bU] using hV)
 unfold jL.f at h
 cases k with
 | zero =>
  (try simp only [jL.j0] at h)
  (try simp only [bne, Option.bind_eq_some_iff, bS] at h)
  (try simp only [bne, zM, wrap_i64])
  first
   | grind (splits := 60) [kD]
   | ((repeat' (first | (have or_ : Or _ _ := h; clear or_; rcases h with h | h) | (have or_ : Exists _ := h; clear or_; obtain ⟨_, h⟩ := h) | (have or_ : And _ _ := h; clear or_; obtain ⟨hq_, h⟩ := h))) <;> (try simp only [Option.some.injEq, Prod.mk.injEq, reduceCtorEq] at h) <;> (try subst_vars) <;> first | (simp_all [kD] <;> (try omega) <;> done) | grind (splits := 60) [kD])
   | (intros; subst_vars; simp_all [kD]; done)
 | succ k =>
  (try simp only [jL.j0] at h)
  (try simp only [bne, Option.bind_eq_some_iff, bS] at h)
  (try simp only [bne, zM, wrap_i64])
  first
   | grind (splits := 60) [kD, kA.up, kE.up, kX.up, bJ.up]
   | ((repeat' (first | (have or_ : Or _ _ := h; clear or_; rcases h with h | h) | (have or_ : Exists _ := h; clear or_; obtain ⟨_, h⟩ := h) | (have or_ : And _ _ := h; clear or_; obtain ⟨hq_, h⟩ := h; (try first | replace hq_ := kA.le (n := k + 1) hq_ (by omega) | replace hq_ := kE.le (n := k + 1) hq_ (by omega) | replace hq_ := kX.le (n := k + 1) hq_ (by omega) | replace hq_ := bJ.le (n := k + 1) hq_ (by omega))))) <;> (try simp only [Option.some.injEq, Prod.mk.injEq, reduceCtorEq] at h) <;> (try subst_vars) <;> first | (simp_all [kD] <;> (try omega) <;> done) | grind (splits := 60) [kD, kA.up, kE.up, kX.up, bJ.up])
   | (intros; subst_vars; simp_all [kD]; done)
end Go.Proofs.YtimgphlfaninnaaGreat.P
