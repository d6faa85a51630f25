import Derived.Test.YtimgphlfaninnaaGreatQoobaoafdnj
import Derived.Test.YtimgphlfaninnaaGreatQaneaoahjfn
import Derived.Test.YtimgphlfaninnaaGreatQlgomohghol
namespace Go.Proofs.YtimgphlfaninnaaGreat.P
open Go.RowKit Go.Proofs.YtimgphlfaninnaaGreatW.PrintWords Go.Proofs.YtimgphlfaninnaaGreatW.PrintLast Go.Proofs.YtimgphlfaninnaaGreatW.PrintMore
open Go.Proofs.YtimgphlfaninnaaGreat.A
 attribute [local go_sem] jQ jP zB zC jE jD jO jN
set_option linter.unusedVariables false
set_option linter.unusedSimpArgs false
def num_Sub.f (a0 : Int) (a1 : Int) : Option (Int × Int) := if ((decide ((wrap64 (a0 - a1)) < a0)) != (decide (a1 > 0))) = true then (some (0, 10)) else (some (wrap64 (a0 - a1), 0))
set_option maxHeartbeats 8000000 in
set_option maxRecDepth 100000 in
theorem num_Sub.calls (a0 : Int) (a1 : Int) (r1 : Int) (r2 : Int) (w : World) (h : num_Sub.f a0 a1 = some (r1, r2)) :
 Calls Tryz.prog 53 #[.int .i64 a0, .int .i64 a1] w fun e w' => e = .returned (.tuple #[.int .i64 r1, .int .i64 r2]) ∧ Drawn0 w w' := by
 have H : (if ((decide ((wrap64 (a0 - a1)) < a0)) != (decide (a1 > 0))) = true then (some (0, 10)) else (some (wrap64 (a0 - a1), 0))) = some (r1, r2) := h
 clear h
 by_cases c3 : ((decide ((wrap64 (a0 - a1)) < a0)) != (decide (a1 > 0))) = true
 · rw [if_pos c3] at H
   have c3b0 : ((decide ((wrap64 (a0 - a1)) < a0)) != (decide (a1 > 0))) = true := c3
   (try (have c3b1 : decide ((decide ((wrap64 (a0 - a1)) < a0)) = (decide (a1 > 0))) = false := by simpa using c3))
   (try (have c3b2 : ((decide ((wrap64 (a0 - a1)) < a0)) == (decide (a1 > 0))) = false := by simpa using c3))
   (try (have c3b3 : ¬ ((decide ((wrap64 (a0 - a1)) < a0)) = (decide (a1 > 0))) := by simpa using c3))
   clear c3
   simp only [Option.some.injEq, Prod.mk.injEq] at H
   obtain ⟨rfl, rfl⟩ := H
   go_enter Tryz.func53, Tryz.ntmps53
   go_wp2
   go_ret2
   exact ⟨by first | rfl | (simp; done) | (simp [*]; done), by repeat (first | exact Drawn0.refl _ | apply Drawn0.step)⟩
 · rw [if_neg c3] at H
   have c3b0 : ((decide ((wrap64 (a0 - a1)) < a0)) != (decide (a1 > 0))) = false := by simpa using c3
   (try (have c3b1 : decide ((decide ((wrap64 (a0 - a1)) < a0)) = (decide (a1 > 0))) = true := by simpa using c3))
   (try (have c3b2 : ((decide ((wrap64 (a0 - a1)) < a0)) == (decide (a1 > 0))) = true := by simpa using c3))
   clear c3
   simp only [Option.some.injEq, Prod.mk.injEq] at H
   obtain ⟨rfl, rfl⟩ := H
   go_enter Tryz.func53, Tryz.ntmps53
   go_wp2
   go_ret2
   exact ⟨by first | rfl | (simp; done) | (simp [*]; done), by repeat (first | exact Drawn0.refl _ | apply Drawn0.step)⟩
def num_Neg.f (a0 : Int) : Option (Int × Int) := (num_Sub.f 0 a0).bind fun bt272 => (some (bt272.1, bt272.2))
set_option maxHeartbeats 8000000 in
set_option maxRecDepth 100000 in
theorem num_Neg.calls (a0 : Int) (r1 : Int) (r2 : Int) (w : World) (h : num_Neg.f a0 = some (r1, r2)) :
 Calls Tryz.prog 65 #[.int .i64 a0] w fun e w' => e = .returned (.tuple #[.int .i64 r1, .int .i64 r2]) ∧ Drawn0 w w' := by
 have H : ((num_Sub.f 0 a0).bind fun bt272 => (some (bt272.1, bt272.2))) = some (r1, r2) := h
 clear h
 replace H := Option.bind_eq_some_iff.mp H
 obtain ⟨⟨t272, t273⟩, A20, H⟩ := H
 replace H : (some (t272, t273)) = some (r1, r2) := H
 have A2 := Aside0.mk A20
 clear A20
 simp only [Option.some.injEq, Prod.mk.injEq] at H
 obtain ⟨rfl, rfl⟩ := H
 go_enter Tryz.func65, Tryz.ntmps65
 go_wp2_with (first | ((with_reducible refine kW (f := 53) rfl ?_); refine jI (some 5) rfl rfl Tryz.func53 (by kernel_rfl) rfl #[.int .i64 0, .int .i64 a0] rfl (by (try simp only [List.map_toArray, List.map_cons, List.map_nil]); first | done | rfl | (simp only [List.length_drop, List.length_take]; rfl)) ?_; (with_reducible refine (num_Sub.calls 0 a0 t272 t273 _ A2.out).mono ?_); rintro e w' ⟨rfl, ⟨nd, rfl⟩⟩; refine ⟨_, rfl, ?_⟩))
 go_ret2
 exact ⟨by first | rfl | (simp; done) | (simp [*]; done), by repeat (first | exact Drawn0.refl _ | apply Drawn0.step)⟩
noncomputable def num_Neg.con : Con
 | [.int .i64 a0] => some ((num_Neg.f a0).isSome, .tup [.int .i64 (gd (num_Neg.f a0)).1, .int .i64 (gd (num_Neg.f a0)).2])
 | _ => none
set_option maxRecDepth 100000 in
theorem num_Neg.cok : COk Tryz.prog 65 (num_Neg.con) := by
 intro args p v hc hp w A hA
 unfold num_Neg.con at hc
 split at hc
 · rename_i a0
   simp only [Option.some.injEq, Prod.mk.injEq] at hc
   obtain ⟨rfl, rfl⟩ := hc
   rcases hf : num_Neg.f a0 with _ | ⟨r1, r2⟩
   · rw [hf] at hp; cases hp
   obtain rfl : A = [.int .i64 a0] := by simpa [kG, kK, kL, kH, kS, kM, jR] using hA
   exact kT (fn := Tryz.f65) Tryz.func65 (by kernel_rfl) (by kernel_rfl) (num_Neg.calls _ _ _ w hf) (fun _ => by simp [kD, kG, kK, kL, kH, kS, kM, bU]) (fun _ h => h.below)
 · cases hc
def stamp_on.f (k : Nat) (a0_0 : Int) (a0_1 : Int) (a1 : Int) : Option (Int × Int × Int) := (qR.f a0_1 a1).bind fun bt311 => (if bt311.2 = 0 then ((kU.f k 0 bt311.1).bind fun t313 => (if t313 = true then (some (0, bt311.1, 0)) else (some (0, 0, 10)))) else (some (0, 0, 10)))
set_option maxRecDepth 100000 in
theorem stamp_on.vc (k : Nat) (a0_0 : Int) (a0_1 : Int) (a1 : Int) (K : AV → Prop) : afv PA Tryz.prog (tab [(51, kU.con k), (67, qR.con)]) noLoops 2 29 [.agg [.int .i64 a0_0, .int .i64 a0_1], .int .i64 a1] K = (brc (Option.isSome (qR.f a0_1 a1)) (∀ (m0 : Int), m0 = Prod.fst (gd (qR.f a0_1 a1)) → ∀ (m1 : Int), m1 = Prod.snd (gd (qR.f a0_1 a1)) → brc (m1 != 0) (K (AV.tup [AV.agg [AV.int IntKind.i64 0, AV.int IntKind.i64 0], AV.int IntKind.i64 10])) (brc (Option.isSome (kU.f k 0 m0)) (∀ (m2 : Bool), m2 = gd (kU.f k 0 m0) → brc (!m2) (K (AV.tup [AV.agg [AV.int IntKind.i64 0, AV.int IntKind.i64 0], AV.int IntKind.i64 10])) (K (AV.tup [AV.agg [AV.int IntKind.i64 0, AV.int IntKind.i64 m0], AV.int IntKind.i64 0]))) False)) False) := by kernel_rfl
set_option maxHeartbeats 1000000 in
set_option maxRecDepth 100000 in
theorem stamp_on.calls (k : Nat) (a0_0 : Int) (a0_1 : Int) (a1 : Int) (r1 : Int) (r2 : Int) (r3 : Int) (w : World) (h : stamp_on.f k a0_0 a0_1 a1 = some (r1, r2, r3)) :
 Calls Tryz.prog 29 #[.agg #[.int .i64 a0_0, .int .i64 a0_1], .int .i64 a1] w fun e w' => e = .returned (.tuple #[.agg #[.int .i64 r1, .int .i64 r2], .int .i64 r3]) ∧ Below w.heap.size w w' := by
 refine bZ (A := [.agg #[.int .i64 a0_0, .int .i64 a0_1], .int .i64 a1]) (v := .tup [.agg [.int .i64 r1, .int .i64 r2], .int .i64 r3]) (kP (kU.cok k) (kP (qR.cok) (jV))) ((stamp_on.vc k a0_0 a0_1 a1 _).mpr ?_) (by simp [kG, kK, kL, kH, kS, kM, jR]) (fun ρ V' hV => by simpa [kG, kK, kL, kH, kS, kM, bU] using hV)
 unfold stamp_on.f at h
 (try simp only [bne, Option.bind_eq_some_iff, bS] at h)
 (try simp only [bne, zM, wrap_i64])
 first
  | grind (splits := 60) [kD]
  | ((repeat' (first | (have or_ : Or _ _ := h; clear or_; rcases h with h | h) | (have or_ : Exists _ := h; clear or_; obtain ⟨_, h⟩ := h) | (have or_ : And _ _ := h; clear or_; obtain ⟨hq_, h⟩ := h))) <;> (try simp only [Option.some.injEq, Prod.mk.injEq, reduceCtorEq] at h) <;> (try subst_vars) <;> first | (simp_all [kD] <;> (try omega) <;> done) | grind (splits := 60) [kD])
  | (intros; subst_vars; simp_all [kD]; done)
def bT.f (a0 : Int) (a1 : Int) : Option (Int) := if a1 = 0 then (none) else (if (Int.tmod a0 a1) < 0 then (some (wrap64 ((Int.tmod a0 a1) + a1))) else (some (Int.tmod a0 a1)))
set_option maxHeartbeats 8000000 in
set_option maxRecDepth 100000 in
theorem bT.calls (a0 : Int) (a1 : Int) (r : Int) (w : World) (h : bT.f a0 a1 = some r) :
 Calls Tryz.prog 141 #[.int .i64 a0, .int .i64 a1] w fun e w' => e = .returned (.int .i64 r) ∧ Drawn0 w w' := by
 have H : (if a1 = 0 then (none) else (if (Int.tmod a0 a1) < 0 then (some (wrap64 ((Int.tmod a0 a1) + a1))) else (some (Int.tmod a0 a1)))) = some r := h
 clear h
 by_cases c3 : a1 = 0
 · rw [if_pos c3] at H
   exact absurd H (by simp)
 · rw [if_neg c3] at H
   have c3b0 : (a1 == 0) = false := beq_eq_false_iff_ne.mpr c3
   have c3b1 : (a1 != 0) = true := bne_iff_ne.mpr c3
   by_cases c4 : (Int.tmod a0 a1) < 0
   · rw [if_pos c4] at H
     have c4b0 : decide ((Int.tmod a0 a1) < 0) = true := decide_eq_true c4
     clear c4
     obtain rfl := Option.some.inj H
     go_enter Tryz.func141, Tryz.ntmps141
     go_wp2
     go_ret
     exact ⟨by first | rfl | (simp; done) | (simp [*]; done), by repeat (first | exact Drawn0.refl _ | apply Drawn0.step)⟩
   · rw [if_neg c4] at H
     have c4b0 : decide ((Int.tmod a0 a1) < 0) = false := decide_eq_false c4
     clear c4
     obtain rfl := Option.some.inj H
     go_enter Tryz.func141, Tryz.ntmps141
     go_wp2
     go_ret
     exact ⟨by first | rfl | (simp; done) | (simp [*]; done), by repeat (first | exact Drawn0.refl _ | apply Drawn0.step)⟩
end Go.Proofs.YtimgphlfaninnaaGreat.P
namespace Go.Proofs.YtimgphlfaninnaaGreat.P
open Go.RowKit Go.Proofs.YtimgphlfaninnaaGreatW.PrintWords Go.Proofs.YtimgphlfaninnaaGreatW.PrintLast Go.Proofs.YtimgphlfaninnaaGreatW.PrintMore
open Go.Proofs.YtimgphlfaninnaaGreat.A
 attribute [local go_sem] jQ jP zB zC jE jD jO jN
set_option linter.unusedVariables false
set_option linter.unusedSimpArgs false
attribute [local go_sem high] eqA59
def qO.f (a0 : Int) : Option (Bool) := if a0 ≥ (-2147483647) then (some (decide (a0 ≤ 2147483647))) else (some false)
set_option maxHeartbeats 8000000 in
set_option maxRecDepth 100000 in
theorem qO.calls (a0 : Int) (r : Bool) (w : World) (h : qO.f a0 = some r) :
 Calls Tryz.prog 66 #[.int .i64 a0] w fun e w' => e = .returned (.bool r) ∧ Drawn0 w w' := by
 have H : (if a0 ≥ (-2147483647) then (some (decide (a0 ≤ 2147483647))) else (some false)) = some r := h
 clear h
 by_cases c2 : a0 ≥ (-2147483647)
 · rw [if_pos c2] at H
   have c2b0 : decide ((-2147483647) ≤ a0) = true := decide_eq_true c2
   clear c2
   obtain rfl := Option.some.inj H
   go_enter Tryz.func66, Tryz.ntmps66
   go_wp2
   go_ret
   exact ⟨by first | rfl | (simp; done) | (simp [*]; done), by repeat (first | exact Drawn0.refl _ | apply Drawn0.step)⟩
 · rw [if_neg c2] at H
   have c2b0 : decide ((-2147483647) ≤ a0) = false := decide_eq_false c2
   clear c2
   obtain rfl := Option.some.inj H
   go_enter Tryz.func66, Tryz.ntmps66
   go_wp2
   go_ret
   exact ⟨by first | rfl | (simp; done) | (simp [*]; done), by repeat (first | exact Drawn0.refl _ | apply Drawn0.step)⟩
noncomputable def qO.con : Con
 | [.int .i64 a0] => some ((qO.f a0).isSome, .bool (gd (qO.f a0)))
 | _ => none
set_option maxRecDepth 100000 in
theorem qO.cok : COk Tryz.prog 66 (qO.con) := by
 intro args p v hc hp w A hA
 unfold qO.con at hc
 split at hc
 · rename_i a0
   simp only [Option.some.injEq, Prod.mk.injEq] at hc
   obtain ⟨rfl, rfl⟩ := hc
   rcases hf : qO.f a0 with _ | r
   · rw [hf] at hp; cases hp
   obtain rfl : A = [.int .i64 a0] := by simpa [kG, kK, kL, kH, kS, kM, jR] using hA
   exact kT (fn := Tryz.f66) Tryz.func66 (by kernel_rfl) (by kernel_rfl) (qO.calls _ _ w hf) (fun _ => by simp [kD, kG, kK, kL, kH, kS, kM, bU]) (fun _ h => h.below)
 · cases hc
def qG.f (a0_0 : Int) (a0_1 : Int) (a0_2 : Int) (a0_3 : Int) : Option (Bool) := if a0_0 = 0 then ((num_Neg.f a0_3).bind fun bt750 => ((qO.f a0_1).bind fun t752 => (if t752 = true then ((qO.f a0_2).bind fun t753 => (if t753 = true then (some (bt750.2 == 0)) else (some false))) else (some false)))) else (if (a0_1 == 0 && (a0_2 == 0 && (a0_3 == 0))) = true then (if a0_0 ≥ (-1) then (some (decide (a0_0 ≤ 1))) else (some false)) else (some false))
set_option maxRecDepth 100000 in
theorem qG.vc (a0_0 : Int) (a0_1 : Int) (a0_2 : Int) (a0_3 : Int) (K : AV → Prop) : afv PA Tryz.prog (tab [(65, num_Neg.con), (66, qO.con)]) noLoops 2 27 [.agg [.int .i64 a0_0, .int .i64 a0_1, .int .i64 a0_2, .int .i64 a0_3]] K = (brc (a0_0 != 0) (brc (a0_0 == a0_0 && (a0_1 == 0 && (a0_2 == 0 && (a0_3 == 0 && true)))) (brc (decide (a0_0 ≥ -1)) (K (AV.bool (decide (a0_0 ≤ 1)))) (K (AV.bool false))) (K (AV.bool false))) (brc (Option.isSome (num_Neg.f a0_3)) (∀ (m0 : Int), m0 = Prod.fst (gd (num_Neg.f a0_3)) → ∀ (m1 : Int), m1 = Prod.snd (gd (num_Neg.f a0_3)) → brc (Option.isSome (qO.f a0_1)) (∀ (m2 : Bool), m2 = gd (qO.f a0_1) → brc m2 (brc (Option.isSome (qO.f a0_2)) (∀ (m3 : Bool), m3 = gd (qO.f a0_2) → brc m3 (K (AV.bool (m1 == 0))) (K (AV.bool false))) False) (K (AV.bool false))) False) False)) := by kernel_rfl
set_option maxHeartbeats 1000000 in
set_option maxRecDepth 100000 in
theorem qG.calls (a0_0 : Int) (a0_1 : Int) (a0_2 : Int) (a0_3 : Int) (r : Bool) (w : World) (h : qG.f a0_0 a0_1 a0_2 a0_3 = some r) :
 Calls Tryz.prog 27 #[.agg #[.int .i64 a0_0, .int .i64 a0_1, .int .i64 a0_2, .int .i64 a0_3]] w fun e w' => e = .returned (.bool r) ∧ Below w.heap.size w w' := by
 refine bZ (A := [.agg #[.int .i64 a0_0, .int .i64 a0_1, .int .i64 a0_2, .int .i64 a0_3]]) (v := .bool r) (kP (num_Neg.cok) (kP (qO.cok) (jV))) ((qG.vc a0_0 a0_1 a0_2 a0_3 _).mpr ?_) (by simp [kG, kK, kL, kH, kS, kM, jR]) (fun ρ V' hV => by simpa [kG, kK, kL, kH, kS, kM, bU] using hV)
 unfold qG.f at h
 (try simp only [bne, Option.bind_eq_some_iff, bS] at h)
 (try simp only [bne, zM, wrap_i64])
 first
  | grind (splits := 60) [kD]
  | ((repeat' (first | (have or_ : Or _ _ := h; clear or_; rcases h with h | h) | (have or_ : Exists _ := h; clear or_; obtain ⟨_, h⟩ := h) | (have or_ : And _ _ := h; clear or_; obtain ⟨hq_, h⟩ := h))) <;> (try simp only [Option.some.injEq, Prod.mk.injEq, reduceCtorEq] at h) <;> (try subst_vars) <;> first | (simp_all [kD] <;> (try omega) <;> rcases hb0 : decide (a0_0 ≥ -1) with _ | _ <;> rcases hb1 : decide (a0_0 ≤ 1) with _ | _ <;> simp_all [kD] <;> done) | grind (splits := 60) [kD])
  | (intros; subst_vars; simp_all [kD]; done)
noncomputable def qG.con : Con
 | [.agg [.int .i64 a0_0, .int .i64 a0_1, .int .i64 a0_2, .int .i64 a0_3]] => some ((qG.f a0_0 a0_1 a0_2 a0_3).isSome, .bool (gd (qG.f a0_0 a0_1 a0_2 a0_3)))
 | _ => none
set_option maxRecDepth 100000 in
theorem qG.cok : COk Tryz.prog 27 (qG.con) := by
 intro args p v hc hp w A hA
 unfold qG.con at hc
 split at hc
 · rename_i a0_0 a0_1 a0_2 a0_3
   simp only [Option.some.injEq, Prod.mk.injEq] at hc
   obtain ⟨rfl, rfl⟩ := hc
   rcases hf : qG.f a0_0 a0_1 a0_2 a0_3 with _ | r
   · rw [hf] at hp; cases hp
   obtain rfl : A = [.agg #[.int .i64 a0_0, .int .i64 a0_1, .int .i64 a0_2, .int .i64 a0_3]] := by simpa [kG, kK, kL, kH, kS, kM, jR] using hA
   exact kT (fn := Tryz.f27) Tryz.func27 (by kernel_rfl) (by kernel_rfl) (qG.calls _ _ _ _ _ w hf) (fun _ => by simp [kD, kG, kK, kL, kH, kS, kM, bU]) (fun _ h => h)
 · cases hc
end Go.Proofs.YtimgphlfaninnaaGreat.P
namespace Go.Proofs.YtimgphlfaninnaaGreat.P
open Go.RowKit Go.Proofs.YtimgphlfaninnaaGreatW.PrintWords Go.Proofs.YtimgphlfaninnaaGreatW.PrintLast Go.Proofs.YtimgphlfaninnaaGreatW.PrintMore
open Go.Proofs.YtimgphlfaninnaaGreat.A
 attribute [local go_sem] jQ jP zB zC jE jD jO jN
set_option linter.unusedVariables false
set_option linter.unusedSimpArgs false
open A in
def sgQb (o : Option Bool) (C : Bool → Prop) : Prop := brc (Option.isSome o) (∀ (m : Bool), m = gd o → C m) False
open A in
def sgQ1 (o : Option Int) (C : Int → Prop) : Prop := brc (Option.isSome o) (∀ (m : Int), m = gd o → C m) False
open A in
def sgQ2 (o : Option (Int × Int)) (C : Int → Int → Prop) : Prop := brc (Option.isSome o) (∀ (m0 : Int), m0 = Prod.fst (gd o) → ∀ (m1 : Int), m1 = Prod.snd (gd o) → C m0 m1) False
open A in
def sgQ3 (o : Option (Int × Int × Int)) (C : Int → Int → Int → Prop) : Prop := brc (Option.isSome o) (∀ (m0 : Int), m0 = Prod.fst (gd o) → ∀ (m1 : Int), m1 = Prod.fst (Prod.snd (gd o)) → ∀ (m2 : Int), m2 = Prod.snd (Prod.snd (gd o)) → C m0 m1 m2) False
open A in
def sgQ4 (o : Option (Int × Int × Int × Int)) (C : Int → Int → Int → Int → Prop) : Prop := brc (Option.isSome o) (∀ (m0 : Int), m0 = Prod.fst (gd o) → ∀ (m1 : Int), m1 = Prod.fst (Prod.snd (gd o)) → ∀ (m2 : Int), m2 = Prod.fst (Prod.snd (Prod.snd (gd o))) → ∀ (m3 : Int), m3 = Prod.snd (Prod.snd (Prod.snd (gd o))) → C m0 m1 m2 m3) False
open A in
def sgQ5 (o : Option (Int × Int × Int × Int × Int)) (C : Int → Int → Int → Int → Int → Prop) : Prop := brc (Option.isSome o) (∀ (m0 : Int), m0 = Prod.fst (gd o) → ∀ (m1 : Int), m1 = Prod.fst (Prod.snd (gd o)) → ∀ (m2 : Int), m2 = Prod.fst (Prod.snd (Prod.snd (gd o))) → ∀ (m3 : Int), m3 = Prod.fst (Prod.snd (Prod.snd (Prod.snd (gd o)))) → ∀ (m4 : Int), m4 = Prod.snd (Prod.snd (Prod.snd (Prod.snd (gd o)))) → C m0 m1 m2 m3 m4) False
open A in
theorem sgY {b : Bool} {A B : Prop} (h : b = true) (a : A) : brc b A B := by subst h; exact a
open A in
theorem sgNo {b : Bool} {A B : Prop} (h : b = false) (a : B) : brc b A B := by subst h; exact a
theorem sgQb_ok {o : Option Bool} {a : Bool} (h : o = some a) {C : Bool → Prop} (hc : C a) : sgQb o C := by
 subst h; refine sgY rfl ?_; rintro _ rfl; exact hc
theorem sgQ1_ok {o : Option Int} {a : Int} (h : o = some a) {C : Int → Prop} (hc : C a) : sgQ1 o C := by
 subst h; refine sgY rfl ?_; rintro _ rfl; exact hc
theorem sgQ2_ok {o : Option (Int × Int)} {a b : Int} (h : o = some (a, b)) {C : Int → Int → Prop} (hc : C a b) : sgQ2 o C := by
 subst h; refine sgY rfl ?_; rintro _ rfl _ rfl; exact hc
theorem sgQ3_ok {o : Option (Int × Int × Int)} {a b c : Int} (h : o = some (a, b, c)) {C : Int → Int → Int → Prop} (hc : C a b c) : sgQ3 o C := by
 subst h; refine sgY rfl ?_; rintro _ rfl _ rfl _ rfl; exact hc
theorem sgQ4_ok {o : Option (Int × Int × Int × Int)} {a b c d : Int} (h : o = some (a, b, c, d)) {C : Int → Int → Int → Int → Prop} (hc : C a b c d) : sgQ4 o C := by
 subst h; refine sgY rfl ?_; rintro _ rfl _ rfl _ rfl _ rfl; exact hc
theorem sgQ5_ok {o : Option (Int × Int × Int × Int × Int)} {a b c d e : Int} (h : o = some (a, b, c, d, e)) {C : Int → Int → Int → Int → Int → Prop} (hc : C a b c d e) : sgQ5 o C := by
 subst h; refine sgY rfl ?_; rintro _ rfl _ rfl _ rfl _ rfl _ rfl; exact hc
open A in
def sgK3 (K : AV → Prop) (a b c : Int) : Prop := K (.tup [.agg [.int .i64 a, .int .i64 b], .int .i64 c])
open A in
def sgK5 (K : AV → Prop) (a b c d e : Int) : Prop := K (.tup [.agg [.int .i64 a, .int .i64 b, .int .i64 c, .int .i64 d], .int .i64 e])
open A in
noncomputable def sgR (k : Nat) : Con
 | [.agg [.int .i64 x, .int .i64 y]] => some ((kU.f k x y).isSome, .bool (gd (kU.f k x y)))
 | _ => none
set_option linter.unusedSimpArgs false in
open A in
theorem sgR_ok (k : Nat) : COk Tryz.prog 51 (sgR k) := by
 intro args p v hc hp w A hA
 unfold sgR at hc
 split at hc
 · rename_i x y
   simp only [Option.some.injEq, Prod.mk.injEq] at hc
   obtain ⟨rfl, rfl⟩ := hc
   rcases hf : kU.f k x y with _ | r1
   · rw [hf] at hp; cases hp
   obtain rfl : A = [.agg #[.int .i64 x, .int .i64 y]] := by simpa [kG, kK, kL, kH, kS, kM, jR] using hA
   exact kT (fn := Tryz.f51) Tryz.func51 (by kernel_rfl) (by kernel_rfl) (kU.calls _ _ _ _ w hf) (fun _ => by simp [kD, kG, kK, kL, kH, kS, kM, bU]) (fun _ h => h)
 · cases hc
open A in
noncomputable def sgQ : Con
 | [.agg [.int .i64 x, .int .i64 y, .int .i64 z, .int .i64 t]] => some ((qG.f x y z t).isSome, .bool (gd (qG.f x y z t)))
 | _ => none
set_option linter.unusedSimpArgs false in
open A in
theorem sgQ_ok : COk Tryz.prog 27 (sgQ) := by
 intro args p v hc hp w A hA
 unfold sgQ at hc
 split at hc
 · rename_i x y z t
   simp only [Option.some.injEq, Prod.mk.injEq] at hc
   obtain ⟨rfl, rfl⟩ := hc
   rcases hf : qG.f x y z t with _ | r1
   · rw [hf] at hp; cases hp
   obtain rfl : A = [.agg #[.int .i64 x, .int .i64 y, .int .i64 z, .int .i64 t]] := by simpa [kG, kK, kL, kH, kS, kM, jR] using hA
   exact kT (fn := Tryz.f27) Tryz.func27 (by kernel_rfl) (by kernel_rfl) (qG.calls _ _ _ _ _ w hf) (fun _ => by simp [kD, kG, kK, kL, kH, kS, kM, bU]) (fun _ h => h)
 · cases hc
open A in
noncomputable def sgD (k : Nat) : Con
 | [.agg [.int .i64 x, .int .i64 y], .agg [.int .i64 a, .int .i64 b, .int .i64 c, .int .i64 d]] => some ((zO.f k x y a b c d).isSome, .tup [.agg [.int .i64 (gd (zO.f k x y a b c d)).1, .int .i64 (gd (zO.f k x y a b c d)).2.1], .int .i64 (gd (zO.f k x y a b c d)).2.2])
 | _ => none
set_option linter.unusedSimpArgs false in
open A in
theorem sgD_ok (k : Nat) : COk Tryz.prog 44 (sgD k) := by
 intro args p v hc hp w A hA
 unfold sgD at hc
 split at hc
 · rename_i x y a b c d
   simp only [Option.some.injEq, Prod.mk.injEq] at hc
   obtain ⟨rfl, rfl⟩ := hc
   rcases hf : zO.f k x y a b c d with _ | ⟨r1, r2, r3⟩
   · rw [hf] at hp; cases hp
   obtain rfl : A = [.agg #[.int .i64 x, .int .i64 y], .agg #[.int .i64 a, .int .i64 b, .int .i64 c, .int .i64 d]] := by simpa [kG, kK, kL, kH, kS, kM, jR] using hA
   exact kT (fn := Tryz.f44) Tryz.func44 (by kernel_rfl) (by kernel_rfl) (zO.calls _ _ _ _ _ _ _ _ _ _ w hf) (fun _ => by simp [kD, kG, kK, kL, kH, kS, kM, bU]) (fun _ h => h)
 · cases hc
open A in
noncomputable def sgO (k : Nat) : Con
 | [.agg [.int .i64 x, .int .i64 y], .int .i64 z] => some ((stamp_on.f k x y z).isSome, .tup [.agg [.int .i64 (gd (stamp_on.f k x y z)).1, .int .i64 (gd (stamp_on.f k x y z)).2.1], .int .i64 (gd (stamp_on.f k x y z)).2.2])
 | _ => none
set_option linter.unusedSimpArgs false in
open A in
theorem sgO_ok (k : Nat) : COk Tryz.prog 29 (sgO k) := by
 intro args p v hc hp w A hA
 unfold sgO at hc
 split at hc
 · rename_i x y z
   simp only [Option.some.injEq, Prod.mk.injEq] at hc
   obtain ⟨rfl, rfl⟩ := hc
   rcases hf : stamp_on.f k x y z with _ | ⟨r1, r2, r3⟩
   · rw [hf] at hp; cases hp
   obtain rfl : A = [.agg #[.int .i64 x, .int .i64 y], .int .i64 z] := by simpa [kG, kK, kL, kH, kS, kM, jR] using hA
   exact kT (fn := Tryz.f29) Tryz.func29 (by kernel_rfl) (by kernel_rfl) (stamp_on.calls _ _ _ _ _ _ _ w hf) (fun _ => by simp [kD, kG, kK, kL, kH, kS, kM, bU]) (fun _ h => h)
 · cases hc
open A in
theorem stamp_Add_vc (k : Nat) (x y a b c d : Int) (K : AV → Prop) : afv PA Tryz.prog (tab [(51, sgR k), (27, sgQ), (44, sgD k), (29, sgO k)]) noLoops 12 17 [.agg [.int .i64 x, .int .i64 y], .agg [.int .i64 a, .int .i64 b, .int .i64 c, .int .i64 d]] K = (sgQb (kU.f k x y) fun m0 => brc (!m0) (sgK3 K 0 0 1) (sgQb (qG.f a b c d) fun m1 => brc (!m1) (sgK3 K 0 0 1) (brc (decide (IntKind.wrap .i64 (x * a) < 0)) (sgK3 K 0 0 10) (brc (x != 0) (sgK3 K x 0 0) (brc (a != 0) (sgK3 K a 0 0) (sgQ3 (zO.f k x y a b c d) fun m2 m3 m4 => brc (m4 != 0) (sgK3 K 0 0 m4) (sgQ3 (stamp_on.f k m2 m3 d) (sgK3 K)))))))) := by kernel_rfl
def stamp_Add.f (k : Nat) (a0_0 : Int) (a0_1 : Int) (a1_0 : Int) (a1_1 : Int) (a1_2 : Int) (a1_3 : Int) : Option (Int × Int × Int) :=
 (kU.f k a0_0 a0_1).bind fun t => if t = true then ((qG.f a1_0 a1_1 a1_2 a1_3).bind fun q => if q = true then
  (if wrap64 (a0_0 * a1_0) < 0 then some (0, 0, 10) else if a0_0 = 0 then (if a1_0 = 0 then ((zO.f k a0_0 a0_1 a1_0 a1_1 a1_2 a1_3).bind fun d => if d.2.2 = 0 then stamp_on.f k d.1 d.2.1 a1_3 else some (0, 0, d.2.2)) else some (a1_0, 0, 0)) else some (a0_0, 0, 0))
  else some (0, 0, 1)) else some (0, 0, 1)
set_option linter.unusedSimpArgs false in
open A in
theorem stamp_Add.calls (k : Nat) (a0_0 : Int) (a0_1 : Int) (a1_0 : Int) (a1_1 : Int) (a1_2 : Int) (a1_3 : Int) (r1 : Int) (r2 : Int) (r3 : Int) (w : World) (h : stamp_Add.f k a0_0 a0_1 a1_0 a1_1 a1_2 a1_3 = some (r1, r2, r3)) :
 Calls Tryz.prog 17 #[.agg #[.int .i64 a0_0, .int .i64 a0_1], .agg #[.int .i64 a1_0, .int .i64 a1_1, .int .i64 a1_2, .int .i64 a1_3]] w fun e w' => e = .returned (.tuple #[.agg #[.int .i64 r1, .int .i64 r2], .int .i64 r3]) ∧ Below w.heap.size w w' := by
 have hT : TabOk Tryz.prog (tab [(51, sgR k), (27, sgQ), (44, sgD k), (29, sgO k)]) := kP (sgR_ok k) (kP (sgQ_ok) (kP (sgD_ok k) (kP (sgO_ok k) (jV))))
 have hA : RL noNames w [.agg [.int .i64 a0_0, .int .i64 a0_1], .agg [.int .i64 a1_0, .int .i64 a1_1, .int .i64 a1_2, .int .i64 a1_3]] [.agg #[.int .i64 a0_0, .int .i64 a0_1], .agg #[.int .i64 a1_0, .int .i64 a1_1, .int .i64 a1_2, .int .i64 a1_3]] := by simp [kG, kK, kL, kM]
 have hV : ∀ ρ V', RV ρ w (AV.tup [.agg [.int .i64 r1, .int .i64 r2], .int .i64 r3]) V' → V' = .tuple #[.agg #[.int .i64 r1, .int .i64 r2], .int .i64 r3] := fun ρ V' hV => by simpa [kG, kK, kL, kM, bU] using hV
 refine bZ hT (n := 12) (g := 17) ?_ hA hV
 rw [stamp_Add_vc]
 simp only [wrap_i64]
 unfold stamp_Add.f at h
 simp only [Option.bind_eq_some_iff] at h
 obtain ⟨t, ht, h⟩ := h
 refine sgQb_ok ht ?_
 cases t
 · refine sgY rfl ?_
   rw [if_neg (by decide)] at h
   (simp only [Option.some.injEq, Prod.mk.injEq] at h; obtain ⟨rfl, rfl, rfl⟩ := h; rfl)
 refine sgNo rfl ?_
 rw [if_pos rfl] at h
 simp only [Option.bind_eq_some_iff] at h
 obtain ⟨q, hq, h⟩ := h
 refine sgQb_ok hq ?_
 cases q
 · refine sgY rfl ?_
   rw [if_neg (by decide)] at h
   (simp only [Option.some.injEq, Prod.mk.injEq] at h; obtain ⟨rfl, rfl, rfl⟩ := h; rfl)
 refine sgNo rfl ?_
 rw [if_pos rfl] at h
 by_cases h1 : wrap64 (a0_0 * a1_0) < 0
 · rw [if_pos h1] at h
   refine sgY (by simpa using h1) ?_
   (simp only [Option.some.injEq, Prod.mk.injEq] at h; obtain ⟨rfl, rfl, rfl⟩ := h; rfl)
 rw [if_neg h1] at h
 refine sgNo (by simpa using h1) ?_
 by_cases h2 : a0_0 = 0
 · rw [if_pos h2] at h
   refine sgNo (by simp [h2]) ?_
   by_cases h3 : a1_0 = 0
   · rw [if_pos h3] at h
     refine sgNo (by simp [h3]) ?_
     simp only [Option.bind_eq_some_iff] at h
     obtain ⟨⟨d1, d2, d3⟩, hd, h⟩ := h
     refine sgQ3_ok hd ?_
     simp only at h
     by_cases h4 : d3 = 0
     · rw [if_pos h4] at h
       exact sgNo (by simp [h4]) (sgQ3_ok h rfl)
     · rw [if_neg h4] at h
       refine sgY (by simp [h4]) ?_
       (simp only [Option.some.injEq, Prod.mk.injEq] at h; obtain ⟨rfl, rfl, rfl⟩ := h; rfl)
   · rw [if_neg h3] at h
     refine sgY (by simp [h3]) ?_
     (simp only [Option.some.injEq, Prod.mk.injEq] at h; obtain ⟨rfl, rfl, rfl⟩ := h; rfl)
 · rw [if_neg h2] at h
   refine sgY (by simp [h2]) ?_
   (simp only [Option.some.injEq, Prod.mk.injEq] at h; obtain ⟨rfl, rfl, rfl⟩ := h; rfl)
open A in
noncomputable def sgN : Con
 | [.int .i64 x, .int .i64 y] => some ((num_Sub.f x y).isSome, .tup [.int .i64 (gd (num_Sub.f x y)).1, .int .i64 (gd (num_Sub.f x y)).2])
 | _ => none
set_option linter.unusedSimpArgs false in
open A in
theorem sgN_ok : COk Tryz.prog 53 (sgN) := by
 intro args p v hc hp w A hA
 unfold sgN at hc
 split at hc
 · rename_i x y
   simp only [Option.some.injEq, Prod.mk.injEq] at hc
   obtain ⟨rfl, rfl⟩ := hc
   rcases hf : num_Sub.f x y with _ | ⟨r1, r2⟩
   · rw [hf] at hp; cases hp
   obtain rfl : A = [.int .i64 x, .int .i64 y] := by simpa [kG, kK, kL, kH, kS, kM, jR] using hA
   exact kT (fn := Tryz.f53) Tryz.func53 (by kernel_rfl) (by kernel_rfl) (num_Sub.calls _ _ _ _ w hf) (fun _ => by simp [kD, kG, kK, kL, kH, kS, kM, bU]) (fun _ h => h.below)
 · cases hc
open A in
theorem stamp_Sub_vc (k : Nat) (x y z t : Int) (K : AV → Prop) : afv PA Tryz.prog (tab [(51, sgR k), (53, sgN)]) noLoops 12 21 [.agg [.int .i64 x, .int .i64 y], .agg [.int .i64 z, .int .i64 t]] K = (sgQb (kU.f k x y) fun m0 => brc (!m0) (sgK5 K 0 0 0 0 1) (sgQb (kU.f k z t) fun m1 => brc (!m1) (sgK5 K 0 0 0 0 1) (brc (decide (IntKind.wrap .i64 (x * IntKind.wrap .i64 (0 - z)) < 0)) (sgK5 K 0 0 0 0 10) (brc (x != 0) (sgK5 K x 0 0 0 0) (brc (IntKind.wrap .i64 (0 - z) != 0) (sgK5 K (IntKind.wrap .i64 (0 - z)) 0 0 0 0) (sgQ2 (num_Sub.f y t) fun m2 m3 => brc (m3 != 0) (sgK5 K 0 0 0 0 m3) (sgK5 K 0 0 (IntKind.wrap .i64 (Int.tdiv m2 86400000000)) (Int.tmod m2 86400000000) 0))))))) := by kernel_rfl
def jY.f (k : Nat) (a0_0 : Int) (a0_1 : Int) (a1_0 : Int) (a1_1 : Int) : Option (Int × Int × Int × Int × Int) :=
 (kU.f k a0_0 a0_1).bind fun t => if t = true then ((kU.f k a1_0 a1_1).bind fun q => if q = true then
  (if wrap64 (a0_0 * wrap64 (0 - a1_0)) < 0 then some (0, 0, 0, 0, 10) else if a0_0 = 0 then (if wrap64 (0 - a1_0) = 0 then ((num_Sub.f a0_1 a1_1).bind fun d => if d.2 = 0 then some (0, 0, wrap64 (Int.tdiv d.1 86400000000), Int.tmod d.1 86400000000, 0) else some (0, 0, 0, 0, d.2)) else some (wrap64 (0 - a1_0), 0, 0, 0, 0)) else some (a0_0, 0, 0, 0, 0))
  else some (0, 0, 0, 0, 1)) else some (0, 0, 0, 0, 1)
set_option linter.unusedSimpArgs false in
open A in
theorem jY.calls (k : Nat) (a0_0 : Int) (a0_1 : Int) (a1_0 : Int) (a1_1 : Int) (r1 : Int) (r2 : Int) (r3 : Int) (r4 : Int) (r5 : Int) (w : World) (h : jY.f k a0_0 a0_1 a1_0 a1_1 = some (r1, r2, r3, r4, r5)) :
 Calls Tryz.prog 21 #[.agg #[.int .i64 a0_0, .int .i64 a0_1], .agg #[.int .i64 a1_0, .int .i64 a1_1]] w fun e w' => e = .returned (.tuple #[.agg #[.int .i64 r1, .int .i64 r2, .int .i64 r3, .int .i64 r4], .int .i64 r5]) ∧ Below w.heap.size w w' := by
 have hT : TabOk Tryz.prog (tab [(51, sgR k), (53, sgN)]) := kP (sgR_ok k) (kP (sgN_ok) (jV))
 have hA : RL noNames w [.agg [.int .i64 a0_0, .int .i64 a0_1], .agg [.int .i64 a1_0, .int .i64 a1_1]] [.agg #[.int .i64 a0_0, .int .i64 a0_1], .agg #[.int .i64 a1_0, .int .i64 a1_1]] := by simp [kG, kK, kL, kM]
 have hV : ∀ ρ V', RV ρ w (AV.tup [.agg [.int .i64 r1, .int .i64 r2, .int .i64 r3, .int .i64 r4], .int .i64 r5]) V' → V' = .tuple #[.agg #[.int .i64 r1, .int .i64 r2, .int .i64 r3, .int .i64 r4], .int .i64 r5] := fun ρ V' hV => by simpa [kG, kK, kL, kM, bU] using hV
 refine bZ hT (n := 12) (g := 21) ?_ hA hV
 rw [stamp_Sub_vc]
 simp only [wrap_i64]
 unfold jY.f at h
 simp only [Option.bind_eq_some_iff] at h
 obtain ⟨t, ht, h⟩ := h
 refine sgQb_ok ht ?_
 cases t
 · refine sgY rfl ?_
   rw [if_neg (by decide)] at h
   (simp only [Option.some.injEq, Prod.mk.injEq] at h; obtain ⟨rfl, rfl, rfl, rfl, rfl⟩ := h; rfl)
 refine sgNo rfl ?_
 rw [if_pos rfl] at h
 simp only [Option.bind_eq_some_iff] at h
 obtain ⟨q, hq, h⟩ := h
 refine sgQb_ok hq ?_
 cases q
 · refine sgY rfl ?_
   rw [if_neg (by decide)] at h
   (simp only [Option.some.injEq, Prod.mk.injEq] at h; obtain ⟨rfl, rfl, rfl, rfl, rfl⟩ := h; rfl)
 refine sgNo rfl ?_
 rw [if_pos rfl] at h
 by_cases h1 : wrap64 (a0_0 * wrap64 (0 - a1_0)) < 0
 · rw [if_pos h1] at h
   refine sgY (by simpa using h1) ?_
   (simp only [Option.some.injEq, Prod.mk.injEq] at h; obtain ⟨rfl, rfl, rfl, rfl, rfl⟩ := h; rfl)
 rw [if_neg h1] at h
 refine sgNo (by simpa using h1) ?_
 by_cases h2 : a0_0 = 0
 · rw [if_pos h2] at h
   refine sgNo (by simp [h2]) ?_
   by_cases h3 : wrap64 (0 - a1_0) = 0
   · rw [if_pos h3] at h
     refine sgNo (by simpa using h3) ?_
     simp only [Option.bind_eq_some_iff] at h
     obtain ⟨⟨d1, d2⟩, hd, h⟩ := h
     refine sgQ2_ok hd ?_
     simp only at h
     by_cases h4 : d2 = 0
     · rw [if_pos h4] at h
       refine sgNo (by simp [h4]) ?_
       (simp only [Option.some.injEq, Prod.mk.injEq] at h; obtain ⟨rfl, rfl, rfl, rfl, rfl⟩ := h; rfl)
     · rw [if_neg h4] at h
       refine sgY (by simp [h4]) ?_
       (simp only [Option.some.injEq, Prod.mk.injEq] at h; obtain ⟨rfl, rfl, rfl, rfl, rfl⟩ := h; rfl)
   · rw [if_neg h3] at h
     refine sgY (by simpa using h3) ?_
     (simp only [Option.some.injEq, Prod.mk.injEq] at h; obtain ⟨rfl, rfl, rfl, rfl, rfl⟩ := h; rfl)
 · rw [if_neg h2] at h
   refine sgY (by simp [h2]) ?_
   (simp only [Option.some.injEq, Prod.mk.injEq] at h; obtain ⟨rfl, rfl, rfl, rfl, rfl⟩ := h; rfl)
noncomputable def jY.con (k : Nat) : Con
 | [.agg [.int .i64 a0_0, .int .i64 a0_1], .agg [.int .i64 a1_0, .int .i64 a1_1]] => some ((jY.f k a0_0 a0_1 a1_0 a1_1).isSome, .tup [.agg [.int .i64 (gd (jY.f k a0_0 a0_1 a1_0 a1_1)).1, .int .i64 (gd (jY.f k a0_0 a0_1 a1_0 a1_1)).2.1, .int .i64 (gd (jY.f k a0_0 a0_1 a1_0 a1_1)).2.2.1, .int .i64 (gd (jY.f k a0_0 a0_1 a1_0 a1_1)).2.2.2.1], .int .i64 (gd (jY.f k a0_0 a0_1 a1_0 a1_1)).2.2.2.2])
 | _ => none
set_option maxRecDepth 100000 in
theorem jY.cok (k : Nat) : COk Tryz.prog 21 (jY.con k) := by
 intro args p v hc hp w A hA
 unfold jY.con at hc
 split at hc
 · rename_i a0_0 a0_1 a1_0 a1_1
   simp only [Option.some.injEq, Prod.mk.injEq] at hc
   obtain ⟨rfl, rfl⟩ := hc
   rcases hf : jY.f k a0_0 a0_1 a1_0 a1_1 with _ | ⟨r1, r2, r3, r4, r5⟩
   · rw [hf] at hp; cases hp
   obtain rfl : A = [.agg #[.int .i64 a0_0, .int .i64 a0_1], .agg #[.int .i64 a1_0, .int .i64 a1_1]] := by simpa [kG, kK, kL, kH, kS, kM, jR] using hA
   exact kT (fn := Tryz.f21) Tryz.func21 (by kernel_rfl) (by kernel_rfl) (jY.calls _ _ _ _ _ _ _ _ _ _ w hf) (fun _ => by simp [kD, kG, kK, kL, kH, kS, kM, bU]) (fun _ h => h)
 · cases hc
def vA.f (a0_0 : Int) (a0_1 : Int) : Option (Int × Int × Int × Int) := (zX.f a0_0 a0_1).bind fun t234 => (if t234 = true then (if a0_0 = 0 then ((zD.f a0_1).bind fun bt235 => (some (bt235.1, bt235.2.1, bt235.2.2.1, bt235.2.2.2))) else (some (0, 0, 0, 10))) else (some (0, 0, 0, 1)))
set_option maxRecDepth 100000 in
theorem vA.vc (a0_0 : Int) (a0_1 : Int) (K : AV → Prop) : afv PA Tryz.prog (tab [(124, zX.con), (130, zD.con)]) noLoops 2 104 [.agg [.int .i64 a0_0, .int .i64 a0_1]] K = (brc (Option.isSome (zX.f a0_0 a0_1)) (∀ (m0 : Bool), m0 = gd (zX.f a0_0 a0_1) → brc (!m0) (K (AV.tup [AV.int IntKind.i64 0, AV.int IntKind.i64 0, AV.int IntKind.i64 0, AV.int IntKind.i64 1])) (brc (a0_0 != 0) (K (AV.tup [AV.int IntKind.i64 0, AV.int IntKind.i64 0, AV.int IntKind.i64 0, AV.int IntKind.i64 10])) (brc (Option.isSome (zD.f a0_1)) (∀ (m1 : Int), m1 = Prod.fst (gd (zD.f a0_1)) → ∀ (m2 : Int), m2 = Prod.fst (Prod.snd (gd (zD.f a0_1))) → ∀ (m3 : Int), m3 = Prod.fst (Prod.snd (Prod.snd (gd (zD.f a0_1)))) → ∀ (m4 : Int), m4 = Prod.snd (Prod.snd (Prod.snd (gd (zD.f a0_1)))) → K (AV.tup [AV.int IntKind.i64 m1, AV.int IntKind.i64 m2, AV.int IntKind.i64 m3, AV.int IntKind.i64 m4])) False))) False) := by kernel_rfl
set_option maxHeartbeats 1000000 in
set_option maxRecDepth 100000 in
theorem vA.calls (a0_0 : Int) (a0_1 : Int) (r1 : Int) (r2 : Int) (r3 : Int) (r4 : Int) (w : World) (h : vA.f a0_0 a0_1 = some (r1, r2, r3, r4)) :
 Calls Tryz.prog 104 #[.agg #[.int .i64 a0_0, .int .i64 a0_1]] w fun e w' => e = .returned (.tuple #[.int .i64 r1, .int .i64 r2, .int .i64 r3, .int .i64 r4]) ∧ Below w.heap.size w w' := by
 refine bZ (A := [.agg #[.int .i64 a0_0, .int .i64 a0_1]]) (v := .tup [.int .i64 r1, .int .i64 r2, .int .i64 r3, .int .i64 r4]) (kP (zX.cok) (kP (zD.cok) (jV))) ((vA.vc a0_0 a0_1 _).mpr ?_) (by simp [kG, kK, kL, kH, kS, kM, jR]) (fun ρ V' hV => by simpa [kG, kK, kL, kH, kS, kM, bU] using hV)
 unfold vA.f at h
 (try simp only [bne, Option.bind_eq_some_iff, bS] at h)
 (try simp only [bne, zM, wrap_i64])
 first
  | grind (splits := 60) [kD]
  | ((repeat' (first | (have or_ : Or _ _ := h; clear or_; rcases h with h | h) | (have or_ : Exists _ := h; clear or_; obtain ⟨_, h⟩ := h) | (have or_ : And _ _ := h; clear or_; obtain ⟨hq_, h⟩ := h))) <;> (try simp only [Option.some.injEq, Prod.mk.injEq, reduceCtorEq] at h) <;> (try subst_vars) <;> first | (simp_all [kD] <;> (try omega) <;> done) | grind (splits := 60) [kD])
  | (intros; subst_vars; simp_all [kD]; done)
def zN.l0 : Nat → Int → List Int → Int → Int → Option (Int)
 | 0, _, _, _, _ => none
 | k + 1, x3, x6, x7, x8 => if x8 < x7 then (if 0 ≤ x8 then (if x8 < (x6.length : Int) then (if (rd x6 x8) = x3 then (zN.l0 k x3 x6 x7 (wrap64 (x8 + 1))) else (some (rd x6 x8))) else (none)) else (none)) else (some x3)
def zN.f (k : Nat) (l0 : List Int) : Option (Int) := zN.l0 k 0 l0 (l0.length : Int) 0
theorem zN.mono_l : ∀ k, (∀ y0 y1 y2 y3, LeO (zN.l0 k y0 y1 y2 y3) (zN.l0 (k + 1) y0 y1 y2 y3))
 | 0 => fun _ _ _ _ r h => by simp [zN.l0] at h
 | k + 1 => by
  have ih0 := zN.mono_l k
  · intro y0 y1 y2 y3
    unfold zN.l0
    repeat' first
    | (with_reducible exact ih0 _ _ _ _)
    | (with_reducible exact LeO.refl _)
    | (with_reducible exact LeO.none _)
    | (with_reducible refine LeO.ite ?_ ?_)
    | (with_reducible refine LeO.bind ?_ (fun _ => ?_))
    | exact ih0 _ _ _ _
    | exact LeO.none _
    | refine LeO.ite ?_ ?_
    | refine LeO.bind ?_ (fun _ => ?_)
theorem zN.mono : ∀ a0 k, LeO (zN.f k a0) (zN.f (k + 1) a0) := by
 intro a0 k
 have ih0 := zN.mono_l k
 unfold zN.f
 repeat' first
  | (with_reducible exact ih0 _ _ _ _)
  | (with_reducible exact LeO.refl _)
  | (with_reducible exact LeO.none _)
  | (with_reducible refine LeO.ite ?_ ?_)
  | (with_reducible refine LeO.bind ?_ (fun _ => ?_))
  | exact ih0 _ _ _ _
  | exact LeO.none _
  | refine LeO.ite ?_ ?_
  | refine LeO.bind ?_ (fun _ => ?_)
set_option maxHeartbeats 8000000 in
set_option maxRecDepth 100000 in
theorem zN.calls (k : Nat) (A0 : Option Addr) (c0 : Nat) (l0 : List Int) (r : Int) (w : World) (hr0 : Kd.C (Kd.int .i64) w A0 l0.length l0) (hc0 : l0.length ≤ c0) (h : zN.f k l0 = some r) :
 Calls Tryz.prog 100 #[.slice A0 l0.length c0] w fun e w' => e = .returned (.int .i64 r) ∧ Drawn0 w w' := by
 have HR0 := Aside0.mk hr0
 have HC0 := Aside0.mk hc0
 clear hr0 hc0
 have H : (zN.l0 k 0 l0 (l0.length : Int) 0) = some r := h
 clear h
 have H' := Aside0.mk H
 clear H
 go_enter Tryz.func100, Tryz.ntmps100
 go_wp2
 go_loopg [8] k (fun kq v8 w' => ∃ (x8_1 : Int), v8 = .int .i64 x8_1 ∧ Aside0 (zN.l0 kq 0 l0 (l0.length : Int) x8_1 = some r) ∧ Aside0 (kq ≤ k) ∧ Drawn0 w w')
 case atStart => exact ⟨(0), (by first | rfl | (simp; done) | (simp [*]; done)), H', ⟨Nat.le_refl _⟩, by repeat (first | exact Drawn0.refl _ | apply Drawn0.step)⟩
 case round =>
  clear H'
  try clear c1
  obtain ⟨x8_1, rfl, HA, HK1, ⟨m1, rfl⟩⟩ := hrel
  cases gk with
  | zero => exact absurd HA.out (by simp [zN.l0])
  | succ k1 =>
   have H := HA.out
   clear HA
   simp only [zN.l0] at H
   by_cases c2 : x8_1 < (l0.length : Int)
   · rw [if_pos c2] at H
     have c2b0 : decide (x8_1 < (l0.length : Int)) = true := decide_eq_true c2
     clear c2
     by_cases c3 : 0 ≤ x8_1
     · rw [if_pos c3] at H
       have c3b0 : decide (0 ≤ x8_1) = true := decide_eq_true c3
       clear c3
       by_cases c4 : x8_1 < (l0.length : Int)
       · rw [if_pos c4] at H
         have c4b0 : decide (x8_1 < (l0.length : Int)) = true := decide_eq_true c4
         clear c4
         by_cases c5 : (rd l0 x8_1) = 0
         · rw [if_pos c5] at H
           have c5b0 : ((rd l0 x8_1) == 0) = true := beq_iff_eq.mpr c5
           have c5b1 : ((rd l0 x8_1) != 0) = false := bne_eq_false_iff_eq.mpr c5
           clear c5
           have H' := Aside0.mk H
           clear H
           have p759 : 0 ≤ (x8_1 : Int) := of_decide_eq_true (by first | (with_reducible assumption) | assumption)
           have q759 : x8_1 < (l0.length : Int) := of_decide_eq_true (by first | (with_reducible assumption) | assumption)
           obtain ⟨ad759, e759, hx759_0⟩ := Kd.at_int HR0.out x8_1 p759 q759
           cases e759
           replace p759 := eq_true p759
           replace q759 := eq_true q759
           go_wp2
           go_roundg k1
           case measure => have := HK1.out; omega
           case rel => exact ⟨(wrap64 (x8_1 + 1)), (by first | rfl | (simp; done) | (simp [*]; done)), H', ⟨by have := HK1.out; omega⟩, by repeat (first | exact Drawn0.refl _ | apply Drawn0.step)⟩
         · rw [if_neg c5] at H
           have c5b0 : ((rd l0 x8_1) == 0) = false := beq_eq_false_iff_ne.mpr c5
           have c5b1 : ((rd l0 x8_1) != 0) = true := bne_iff_ne.mpr c5
           obtain rfl := Option.some.inj H
           have p759 : 0 ≤ (x8_1 : Int) := of_decide_eq_true (by first | (with_reducible assumption) | assumption)
           have q759 : x8_1 < (l0.length : Int) := of_decide_eq_true (by first | (with_reducible assumption) | assumption)
           obtain ⟨ad759, e759, hx759_0⟩ := Kd.at_int HR0.out x8_1 p759 q759
           cases e759
           replace p759 := eq_true p759
           replace q759 := eq_true q759
           go_wp2
           go_ret
           exact ⟨by first | rfl | (simp; done) | (simp [*]; done), by repeat (first | exact Drawn0.refl _ | apply Drawn0.step)⟩
       · rw [if_neg c4] at H
         exact absurd H (by simp)
     · rw [if_neg c3] at H
       exact absurd H (by simp)
   · rw [if_neg c2] at H
     have c2b0 : decide (x8_1 < (l0.length : Int)) = false := decide_eq_false c2
     clear c2
     obtain rfl := Option.some.inj H
     go_wp2
     go_ret
     exact ⟨by first | rfl | (simp; done) | (simp [*]; done), by repeat (first | exact Drawn0.refl _ | apply Drawn0.step)⟩
def qB.f (a0 : Int) : Option (Bool) := some (a0 != a0)
set_option maxHeartbeats 8000000 in
set_option maxRecDepth 100000 in
theorem qB.calls (a0 : Int) (r : Bool) (w : World) (h : qB.f a0 = some r) :
 Calls Tryz.prog 137 #[.int .i64 a0] w fun e w' => e = .returned (.bool r) ∧ Drawn0 w w' := by
 have H : (some (a0 != a0)) = some r := h
 clear h
 obtain rfl := Option.some.inj H
 go_enter Tryz.func137, Tryz.ntmps137
 go_wp2
 go_ret
 exact ⟨by first | rfl | (simp; done) | (simp [*]; done), by repeat (first | exact Drawn0.refl _ | apply Drawn0.step)⟩
def cmp_Compare_int.f (a0 : Int) (a1 : Int) : Option (Int) := (qB.f a0).bind fun t760 => ((qB.f a1).bind fun t761 => (if t760 = true then (if t761 = true then (some 0) else (some (-1))) else (if t761 = true then (some 1) else (if a0 < a1 then (some (-1)) else (if a0 > a1 then (some 1) else (some 0))))))
set_option maxHeartbeats 8000000 in
set_option maxRecDepth 100000 in
theorem cmp_Compare_int.calls (a0 : Int) (a1 : Int) (r : Int) (w : World) (h : cmp_Compare_int.f a0 a1 = some r) :
 Calls Tryz.prog 101 #[.int .i64 a0, .int .i64 a1] w fun e w' => e = .returned (.int .i64 r) ∧ Drawn0 w w' := by
 have H : ((qB.f a0).bind fun t760 => ((qB.f a1).bind fun t761 => (if t760 = true then (if t761 = true then (some 0) else (some (-1))) else (if t761 = true then (some 1) else (if a0 < a1 then (some (-1)) else (if a0 > a1 then (some 1) else (some 0))))))) = some r := h
 clear h
 replace H := Option.bind_eq_some_iff.mp H
 obtain ⟨t760, A30, H⟩ := H
 replace H : ((qB.f a1).bind fun t761 => (if t760 = true then (if t761 = true then (some 0) else (some (-1))) else (if t761 = true then (some 1) else (if a0 < a1 then (some (-1)) else (if a0 > a1 then (some 1) else (some 0)))))) = some r := H
 have A3 := Aside0.mk A30
 clear A30
 replace H := Option.bind_eq_some_iff.mp H
 obtain ⟨t761, A40, H⟩ := H
 replace H : (if t760 = true then (if t761 = true then (some 0) else (some (-1))) else (if t761 = true then (some 1) else (if a0 < a1 then (some (-1)) else (if a0 > a1 then (some 1) else (some 0))))) = some r := H
 have A4 := Aside0.mk A40
 clear A40
 by_cases c5 : t760 = true
 · subst c5
   have H1 : (if t761 = true then (some 0) else (some (-1))) = some r := by rw [if_pos rfl] at H; exact H
   clear H
   have H := H1
   clear H1
   by_cases c6 : t761 = true
   · subst c6
     have H1 : (some 0) = some r := by rw [if_pos rfl] at H; exact H
     clear H
     have H := H1
     clear H1
     obtain rfl := Option.some.inj H
     go_enter Tryz.func101, Tryz.ntmps101
     go_wp2_with (first | ((with_reducible refine kW (f := 137) rfl ?_); refine jI (some 8) rfl rfl Tryz.func137 (by kernel_rfl) rfl #[.int .i64 a0] rfl (by (try simp only [List.map_toArray, List.map_cons, List.map_nil]); first | done | rfl | (simp only [List.length_drop, List.length_take]; rfl)) ?_; (with_reducible refine (qB.calls a0 true _ A3.out).mono ?_); rintro e w' ⟨rfl, ⟨nd, rfl⟩⟩; refine ⟨_, rfl, ?_⟩) | ((with_reducible refine kW (f := 137) rfl ?_); refine jI (some 10) rfl rfl Tryz.func137 (by kernel_rfl) rfl #[.int .i64 a1] rfl (by (try simp only [List.map_toArray, List.map_cons, List.map_nil]); first | done | rfl | (simp only [List.length_drop, List.length_take]; rfl)) ?_; (with_reducible refine (qB.calls a1 true _ A4.out).mono ?_); rintro e w' ⟨rfl, ⟨nd, rfl⟩⟩; refine ⟨_, rfl, ?_⟩))
     go_ret
     exact ⟨by first | rfl | (simp; done) | (simp [*]; done), by repeat (first | exact Drawn0.refl _ | apply Drawn0.step)⟩
   · replace c6 := Bool.eq_false_iff.mpr c6
     subst c6
     have H1 : (some (-1)) = some r := by rw [if_neg (show ¬ (false = true) by decide)] at H; exact H
     clear H
     have H := H1
     clear H1
     obtain rfl := Option.some.inj H
     go_enter Tryz.func101, Tryz.ntmps101
     go_wp2_with (first | ((with_reducible refine kW (f := 137) rfl ?_); refine jI (some 8) rfl rfl Tryz.func137 (by kernel_rfl) rfl #[.int .i64 a0] rfl (by (try simp only [List.map_toArray, List.map_cons, List.map_nil]); first | done | rfl | (simp only [List.length_drop, List.length_take]; rfl)) ?_; (with_reducible refine (qB.calls a0 true _ A3.out).mono ?_); rintro e w' ⟨rfl, ⟨nd, rfl⟩⟩; refine ⟨_, rfl, ?_⟩) | ((with_reducible refine kW (f := 137) rfl ?_); refine jI (some 10) rfl rfl Tryz.func137 (by kernel_rfl) rfl #[.int .i64 a1] rfl (by (try simp only [List.map_toArray, List.map_cons, List.map_nil]); first | done | rfl | (simp only [List.length_drop, List.length_take]; rfl)) ?_; (with_reducible refine (qB.calls a1 false _ A4.out).mono ?_); rintro e w' ⟨rfl, ⟨nd, rfl⟩⟩; refine ⟨_, rfl, ?_⟩))
     go_ret
     exact ⟨by first | rfl | (simp; done) | (simp [*]; done), by repeat (first | exact Drawn0.refl _ | apply Drawn0.step)⟩
 · replace c5 := Bool.eq_false_iff.mpr c5
   subst c5
   have H1 : (if t761 = true then (some 1) else (if a0 < a1 then (some (-1)) else (if a0 > a1 then (some 1) else (some 0)))) = some r := by rw [if_neg (show ¬ (false = true) by decide)] at H; exact H
   clear H
   have H := H1
   clear H1
   by_cases c7 : t761 = true
   · subst c7
     have H1 : (some 1) = some r := by rw [if_pos rfl] at H; exact H
     clear H
     have H := H1
     clear H1
     obtain rfl := Option.some.inj H
     go_enter Tryz.func101, Tryz.ntmps101
     go_wp2_with (first | ((with_reducible refine kW (f := 137) rfl ?_); refine jI (some 8) rfl rfl Tryz.func137 (by kernel_rfl) rfl #[.int .i64 a0] rfl (by (try simp only [List.map_toArray, List.map_cons, List.map_nil]); first | done | rfl | (simp only [List.length_drop, List.length_take]; rfl)) ?_; (with_reducible refine (qB.calls a0 false _ A3.out).mono ?_); rintro e w' ⟨rfl, ⟨nd, rfl⟩⟩; refine ⟨_, rfl, ?_⟩) | ((with_reducible refine kW (f := 137) rfl ?_); refine jI (some 10) rfl rfl Tryz.func137 (by kernel_rfl) rfl #[.int .i64 a1] rfl (by (try simp only [List.map_toArray, List.map_cons, List.map_nil]); first | done | rfl | (simp only [List.length_drop, List.length_take]; rfl)) ?_; (with_reducible refine (qB.calls a1 true _ A4.out).mono ?_); rintro e w' ⟨rfl, ⟨nd, rfl⟩⟩; refine ⟨_, rfl, ?_⟩))
     go_ret
     exact ⟨by first | rfl | (simp; done) | (simp [*]; done), by repeat (first | exact Drawn0.refl _ | apply Drawn0.step)⟩
   · replace c7 := Bool.eq_false_iff.mpr c7
     subst c7
     have H1 : (if a0 < a1 then (some (-1)) else (if a0 > a1 then (some 1) else (some 0))) = some r := by rw [if_neg (show ¬ (false = true) by decide)] at H; exact H
     clear H
     have H := H1
     clear H1
     by_cases c8 : a0 < a1
     · rw [if_pos c8] at H
       have c8b0 : decide (a0 < a1) = true := decide_eq_true c8
       clear c8
       obtain rfl := Option.some.inj H
       go_enter Tryz.func101, Tryz.ntmps101
       go_wp2_with (first | ((with_reducible refine kW (f := 137) rfl ?_); refine jI (some 8) rfl rfl Tryz.func137 (by kernel_rfl) rfl #[.int .i64 a0] rfl (by (try simp only [List.map_toArray, List.map_cons, List.map_nil]); first | done | rfl | (simp only [List.length_drop, List.length_take]; rfl)) ?_; (with_reducible refine (qB.calls a0 false _ A3.out).mono ?_); rintro e w' ⟨rfl, ⟨nd, rfl⟩⟩; refine ⟨_, rfl, ?_⟩) | ((with_reducible refine kW (f := 137) rfl ?_); refine jI (some 10) rfl rfl Tryz.func137 (by kernel_rfl) rfl #[.int .i64 a1] rfl (by (try simp only [List.map_toArray, List.map_cons, List.map_nil]); first | done | rfl | (simp only [List.length_drop, List.length_take]; rfl)) ?_; (with_reducible refine (qB.calls a1 false _ A4.out).mono ?_); rintro e w' ⟨rfl, ⟨nd, rfl⟩⟩; refine ⟨_, rfl, ?_⟩))
       go_ret
       exact ⟨by first | rfl | (simp; done) | (simp [*]; done), by repeat (first | exact Drawn0.refl _ | apply Drawn0.step)⟩
     · rw [if_neg c8] at H
       have c8b0 : decide (a0 < a1) = false := decide_eq_false c8
       clear c8
       by_cases c9 : a0 > a1
       · rw [if_pos c9] at H
         have c9b0 : decide (a1 < a0) = true := decide_eq_true c9
         clear c9
         obtain rfl := Option.some.inj H
         go_enter Tryz.func101, Tryz.ntmps101
         go_wp2_with (first | ((with_reducible refine kW (f := 137) rfl ?_); refine jI (some 8) rfl rfl Tryz.func137 (by kernel_rfl) rfl #[.int .i64 a0] rfl (by (try simp only [List.map_toArray, List.map_cons, List.map_nil]); first | done | rfl | (simp only [List.length_drop, List.length_take]; rfl)) ?_; (with_reducible refine (qB.calls a0 false _ A3.out).mono ?_); rintro e w' ⟨rfl, ⟨nd, rfl⟩⟩; refine ⟨_, rfl, ?_⟩) | ((with_reducible refine kW (f := 137) rfl ?_); refine jI (some 10) rfl rfl Tryz.func137 (by kernel_rfl) rfl #[.int .i64 a1] rfl (by (try simp only [List.map_toArray, List.map_cons, List.map_nil]); first | done | rfl | (simp only [List.length_drop, List.length_take]; rfl)) ?_; (with_reducible refine (qB.calls a1 false _ A4.out).mono ?_); rintro e w' ⟨rfl, ⟨nd, rfl⟩⟩; refine ⟨_, rfl, ?_⟩))
         go_ret
         exact ⟨by first | rfl | (simp; done) | (simp [*]; done), by repeat (first | exact Drawn0.refl _ | apply Drawn0.step)⟩
       · rw [if_neg c9] at H
         have c9b0 : decide (a1 < a0) = false := decide_eq_false c9
         clear c9
         obtain rfl := Option.some.inj H
         go_enter Tryz.func101, Tryz.ntmps101
         go_wp2_with (first | ((with_reducible refine kW (f := 137) rfl ?_); refine jI (some 8) rfl rfl Tryz.func137 (by kernel_rfl) rfl #[.int .i64 a0] rfl (by (try simp only [List.map_toArray, List.map_cons, List.map_nil]); first | done | rfl | (simp only [List.length_drop, List.length_take]; rfl)) ?_; (with_reducible refine (qB.calls a0 false _ A3.out).mono ?_); rintro e w' ⟨rfl, ⟨nd, rfl⟩⟩; refine ⟨_, rfl, ?_⟩) | ((with_reducible refine kW (f := 137) rfl ?_); refine jI (some 10) rfl rfl Tryz.func137 (by kernel_rfl) rfl #[.int .i64 a1] rfl (by (try simp only [List.map_toArray, List.map_cons, List.map_nil]); first | done | rfl | (simp only [List.length_drop, List.length_take]; rfl)) ?_; (with_reducible refine (qB.calls a1 false _ A4.out).mono ?_); rintro e w' ⟨rfl, ⟨nd, rfl⟩⟩; refine ⟨_, rfl, ?_⟩))
         go_ret
         exact ⟨by first | rfl | (simp; done) | (simp [*]; done), by repeat (first | exact Drawn0.refl _ | apply Drawn0.step)⟩
def zI.f (a0 : Int) : Option (Bool) := some (a0 != a0)
set_option maxHeartbeats 8000000 in
set_option maxRecDepth 100000 in
theorem zI.calls (a0 : Int) (r : Bool) (w : World) (h : zI.f a0 = some r) :
 Calls Tryz.prog 138 #[.int .i64 a0] w fun e w' => e = .returned (.bool r) ∧ Drawn0 w w' := by
 have H : (some (a0 != a0)) = some r := h
 clear h
 obtain rfl := Option.some.inj H
 go_enter Tryz.func138, Tryz.ntmps138
 go_wp2
 go_ret
 exact ⟨by first | rfl | (simp; done) | (simp [*]; done), by repeat (first | exact Drawn0.refl _ | apply Drawn0.step)⟩
def vD.f (a0 : Int) (a1 : Int) : Option (Int) := (zI.f a0).bind fun t762 => ((zI.f a1).bind fun t763 => (if t762 = true then (if t763 = true then (some 0) else (some (-1))) else (if t763 = true then (some 1) else (if a0 < a1 then (some (-1)) else (if a0 > a1 then (some 1) else (some 0))))))
set_option maxHeartbeats 8000000 in
set_option maxRecDepth 100000 in
theorem vD.calls (a0 : Int) (a1 : Int) (r : Int) (w : World) (h : vD.f a0 a1 = some r) :
 Calls Tryz.prog 102 #[.int .i64 a0, .int .i64 a1] w fun e w' => e = .returned (.int .i64 r) ∧ Drawn0 w w' := by
 have H : ((zI.f a0).bind fun t762 => ((zI.f a1).bind fun t763 => (if t762 = true then (if t763 = true then (some 0) else (some (-1))) else (if t763 = true then (some 1) else (if a0 < a1 then (some (-1)) else (if a0 > a1 then (some 1) else (some 0))))))) = some r := h
 clear h
 replace H := Option.bind_eq_some_iff.mp H
 obtain ⟨t762, A30, H⟩ := H
 replace H : ((zI.f a1).bind fun t763 => (if t762 = true then (if t763 = true then (some 0) else (some (-1))) else (if t763 = true then (some 1) else (if a0 < a1 then (some (-1)) else (if a0 > a1 then (some 1) else (some 0)))))) = some r := H
 have A3 := Aside0.mk A30
 clear A30
 replace H := Option.bind_eq_some_iff.mp H
 obtain ⟨t763, A40, H⟩ := H
 replace H : (if t762 = true then (if t763 = true then (some 0) else (some (-1))) else (if t763 = true then (some 1) else (if a0 < a1 then (some (-1)) else (if a0 > a1 then (some 1) else (some 0))))) = some r := H
 have A4 := Aside0.mk A40
 clear A40
 by_cases c5 : t762 = true
 · subst c5
   have H1 : (if t763 = true then (some 0) else (some (-1))) = some r := by rw [if_pos rfl] at H; exact H
   clear H
   have H := H1
   clear H1
   by_cases c6 : t763 = true
   · subst c6
     have H1 : (some 0) = some r := by rw [if_pos rfl] at H; exact H
     clear H
     have H := H1
     clear H1
     obtain rfl := Option.some.inj H
     go_enter Tryz.func102, Tryz.ntmps102
     go_wp2_with (first | ((with_reducible refine kW (f := 138) rfl ?_); refine jI (some 8) rfl rfl Tryz.func138 (by kernel_rfl) rfl #[.int .i64 a0] rfl (by (try simp only [List.map_toArray, List.map_cons, List.map_nil]); first | done | rfl | (simp only [List.length_drop, List.length_take]; rfl)) ?_; (with_reducible refine (zI.calls a0 true _ A3.out).mono ?_); rintro e w' ⟨rfl, ⟨nd, rfl⟩⟩; refine ⟨_, rfl, ?_⟩) | ((with_reducible refine kW (f := 138) rfl ?_); refine jI (some 10) rfl rfl Tryz.func138 (by kernel_rfl) rfl #[.int .i64 a1] rfl (by (try simp only [List.map_toArray, List.map_cons, List.map_nil]); first | done | rfl | (simp only [List.length_drop, List.length_take]; rfl)) ?_; (with_reducible refine (zI.calls a1 true _ A4.out).mono ?_); rintro e w' ⟨rfl, ⟨nd, rfl⟩⟩; refine ⟨_, rfl, ?_⟩))
     go_ret
     exact ⟨by first | rfl | (simp; done) | (simp [*]; done), by repeat (first | exact Drawn0.refl _ | apply Drawn0.step)⟩
   · replace c6 := Bool.eq_false_iff.mpr c6
     subst c6
     have H1 : (some (-1)) = some r := by rw [if_neg (show ¬ (false = true) by decide)] at H; exact H
     clear H
     have H := H1
     clear H1
     obtain rfl := Option.some.inj H
     go_enter Tryz.func102, Tryz.ntmps102
     go_wp2_with (first | ((with_reducible refine kW (f := 138) rfl ?_); refine jI (some 8) rfl rfl Tryz.func138 (by kernel_rfl) rfl #[.int .i64 a0] rfl (by (try simp only [List.map_toArray, List.map_cons, List.map_nil]); first | done | rfl | (simp only [List.length_drop, List.length_take]; rfl)) ?_; (with_reducible refine (zI.calls a0 true _ A3.out).mono ?_); rintro e w' ⟨rfl, ⟨nd, rfl⟩⟩; refine ⟨_, rfl, ?_⟩) | ((with_reducible refine kW (f := 138) rfl ?_); refine jI (some 10) rfl rfl Tryz.func138 (by kernel_rfl) rfl #[.int .i64 a1] rfl (by (try simp only [List.map_toArray, List.map_cons, List.map_nil]); first | done | rfl | (simp only [List.length_drop, List.length_take]; rfl)) ?_; (with_reducible refine (zI.calls a1 false _ A4.out).mono ?_); rintro e w' ⟨rfl, ⟨nd, rfl⟩⟩; refine ⟨_, rfl, ?_⟩))
     go_ret
     exact ⟨by first | rfl | (simp; done) | (simp [*]; done), by repeat (first | exact Drawn0.refl _ | apply Drawn0.step)⟩
 · replace c5 := Bool.eq_false_iff.mpr c5
   subst c5
   have H1 : (if t763 = true then (some 1) else (if a0 < a1 then (some (-1)) else (if a0 > a1 then (some 1) else (some 0)))) = some r := by rw [if_neg (show ¬ (false = true) by decide)] at H; exact H
   clear H
   have H := H1
   clear H1
   by_cases c7 : t763 = true
   · subst c7
     have H1 : (some 1) = some r := by rw [if_pos rfl] at H; exact H
     clear H
     have H := H1
     clear H1
     obtain rfl := Option.some.inj H
     go_enter Tryz.func102, Tryz.ntmps102
     go_wp2_with (first | ((with_reducible refine kW (f := 138) rfl ?_); refine jI (some 8) rfl rfl Tryz.func138 (by kernel_rfl) rfl #[.int .i64 a0] rfl (by (try simp only [List.map_toArray, List.map_cons, List.map_nil]); first | done | rfl | (simp only [List.length_drop, List.length_take]; rfl)) ?_; (with_reducible refine (zI.calls a0 false _ A3.out).mono ?_); rintro e w' ⟨rfl, ⟨nd, rfl⟩⟩; refine ⟨_, rfl, ?_⟩) | ((with_reducible refine kW (f := 138) rfl ?_); refine jI (some 10) rfl rfl Tryz.func138 (by kernel_rfl) rfl #[.int .i64 a1] rfl (by (try simp only [List.map_toArray, List.map_cons, List.map_nil]); first | done | rfl | (simp only [List.length_drop, List.length_take]; rfl)) ?_; (with_reducible refine (zI.calls a1 true _ A4.out).mono ?_); rintro e w' ⟨rfl, ⟨nd, rfl⟩⟩; refine ⟨_, rfl, ?_⟩))
     go_ret
     exact ⟨by first | rfl | (simp; done) | (simp [*]; done), by repeat (first | exact Drawn0.refl _ | apply Drawn0.step)⟩
   · replace c7 := Bool.eq_false_iff.mpr c7
     subst c7
     have H1 : (if a0 < a1 then (some (-1)) else (if a0 > a1 then (some 1) else (some 0))) = some r := by rw [if_neg (show ¬ (false = true) by decide)] at H; exact H
     clear H
     have H := H1
     clear H1
     by_cases c8 : a0 < a1
     · rw [if_pos c8] at H
       have c8b0 : decide (a0 < a1) = true := decide_eq_true c8
       clear c8
       obtain rfl := Option.some.inj H
       go_enter Tryz.func102, Tryz.ntmps102
       go_wp2_with (first | ((with_reducible refine kW (f := 138) rfl ?_); refine jI (some 8) rfl rfl Tryz.func138 (by kernel_rfl) rfl #[.int .i64 a0] rfl (by (try simp only [List.map_toArray, List.map_cons, List.map_nil]); first | done | rfl | (simp only [List.length_drop, List.length_take]; rfl)) ?_; (with_reducible refine (zI.calls a0 false _ A3.out).mono ?_); rintro e w' ⟨rfl, ⟨nd, rfl⟩⟩; refine ⟨_, rfl, ?_⟩) | ((with_reducible refine kW (f := 138) rfl ?_); refine jI (some 10) rfl rfl Tryz.func138 (by kernel_rfl) rfl #[.int .i64 a1] rfl (by (try simp only [List.map_toArray, List.map_cons, List.map_nil]); first | done | rfl | (simp only [List.length_drop, List.length_take]; rfl)) ?_; (with_reducible refine (zI.calls a1 false _ A4.out).mono ?_); rintro e w' ⟨rfl, ⟨nd, rfl⟩⟩; refine ⟨_, rfl, ?_⟩))
       go_ret
       exact ⟨by first | rfl | (simp; done) | (simp [*]; done), by repeat (first | exact Drawn0.refl _ | apply Drawn0.step)⟩
     · rw [if_neg c8] at H
       have c8b0 : decide (a0 < a1) = false := decide_eq_false c8
       clear c8
       by_cases c9 : a0 > a1
       · rw [if_pos c9] at H
         have c9b0 : decide (a1 < a0) = true := decide_eq_true c9
         clear c9
         obtain rfl := Option.some.inj H
         go_enter Tryz.func102, Tryz.ntmps102
         go_wp2_with (first | ((with_reducible refine kW (f := 138) rfl ?_); refine jI (some 8) rfl rfl Tryz.func138 (by kernel_rfl) rfl #[.int .i64 a0] rfl (by (try simp only [List.map_toArray, List.map_cons, List.map_nil]); first | done | rfl | (simp only [List.length_drop, List.length_take]; rfl)) ?_; (with_reducible refine (zI.calls a0 false _ A3.out).mono ?_); rintro e w' ⟨rfl, ⟨nd, rfl⟩⟩; refine ⟨_, rfl, ?_⟩) | ((with_reducible refine kW (f := 138) rfl ?_); refine jI (some 10) rfl rfl Tryz.func138 (by kernel_rfl) rfl #[.int .i64 a1] rfl (by (try simp only [List.map_toArray, List.map_cons, List.map_nil]); first | done | rfl | (simp only [List.length_drop, List.length_take]; rfl)) ?_; (with_reducible refine (zI.calls a1 false _ A4.out).mono ?_); rintro e w' ⟨rfl, ⟨nd, rfl⟩⟩; refine ⟨_, rfl, ?_⟩))
         go_ret
         exact ⟨by first | rfl | (simp; done) | (simp [*]; done), by repeat (first | exact Drawn0.refl _ | apply Drawn0.step)⟩
       · rw [if_neg c9] at H
         have c9b0 : decide (a1 < a0) = false := decide_eq_false c9
         clear c9
         obtain rfl := Option.some.inj H
         go_enter Tryz.func102, Tryz.ntmps102
         go_wp2_with (first | ((with_reducible refine kW (f := 138) rfl ?_); refine jI (some 8) rfl rfl Tryz.func138 (by kernel_rfl) rfl #[.int .i64 a0] rfl (by (try simp only [List.map_toArray, List.map_cons, List.map_nil]); first | done | rfl | (simp only [List.length_drop, List.length_take]; rfl)) ?_; (with_reducible refine (zI.calls a0 false _ A3.out).mono ?_); rintro e w' ⟨rfl, ⟨nd, rfl⟩⟩; refine ⟨_, rfl, ?_⟩) | ((with_reducible refine kW (f := 138) rfl ?_); refine jI (some 10) rfl rfl Tryz.func138 (by kernel_rfl) rfl #[.int .i64 a1] rfl (by (try simp only [List.map_toArray, List.map_cons, List.map_nil]); first | done | rfl | (simp only [List.length_drop, List.length_take]; rfl)) ?_; (with_reducible refine (zI.calls a1 false _ A4.out).mono ?_); rintro e w' ⟨rfl, ⟨nd, rfl⟩⟩; refine ⟨_, rfl, ?_⟩))
         go_ret
         exact ⟨by first | rfl | (simp; done) | (simp [*]; done), by repeat (first | exact Drawn0.refl _ | apply Drawn0.step)⟩
def jJ.j0 : Nat → Bool → Int → Int → Int → Int → Option (Int)
 | 0, _, _, _, _, _ => none
 | k + 1, x12, x765000, x765001, x766000, x766001 => if x12 = true then (some 0) else ((cmp_Compare_int.f x765000 x766000).bind fun t768 => ((vD.f x765001 x766001).bind fun t769 => ((zN.f k (([t768, t769] : List Int))).bind fun t773 => (some t773))))
def jJ.f (k : Nat) (a0_0 : Int) (a0_1 : Int) (a1_0 : Int) (a1_1 : Int) : Option (Int) := (kU.f k a0_0 a0_1).bind fun t766 => (if t766 = true then ((kU.f k a1_0 a1_1).bind fun t767 => (jJ.j0 k (!t767) a0_0 a0_1 a1_0 a1_1)) else (jJ.j0 k true a0_0 a0_1 a1_0 a1_1))
def jJ.T3 : Bool × List (List Nat × List Nat) := (true, [([], []), ([0], [0]), ([], []), ([2], [2]), ([1, 3], [1, 3]), ([], []), ([5], [5]), ([], []), ([7], [7]), ([6, 8, 4], [6, 8]), ([4, 9], [4, 9]), ([10, 9], [10]), ([11, 11, 0, 1, 2, 3, 4, 5, 6, 7, 8, 9, 10, 11], [11])])
def jJ.B3 : List Nat := [0, 1, 0, 4, 15, 0, 32, 0, 128, 511, 1023, 2047, 4095]
theorem jJ.tab3 : rtab .any (opsOf Tryz.f55 3) = jJ.T3 := by kernel_rfl
theorem jJ.bits3 : waitsOk jJ.T3.2 jJ.B3 = true := by kernel_rfl
set_option maxHeartbeats 8000000 in
set_option maxRecDepth 100000 in
theorem jJ.calls (k : Nat) (a0_0 : Int) (a0_1 : Int) (a1_0 : Int) (a1_1 : Int) (r : Int) (w : World) (h : jJ.f k a0_0 a0_1 a1_0 a1_1 = some r) :
 Calls Tryz.prog 55 #[.agg #[.int .i64 a0_0, .int .i64 a0_1], .agg #[.int .i64 a1_0, .int .i64 a1_1]] w fun e w' => e = .returned (.int .i64 r) ∧ Below w.heap.size w w' := by
 have hu36 := Tryz.underlying36
 have HB := Aside0.mk (Below.refl w.heap.size w)
 have H : ((kU.f k a0_0 a0_1).bind fun t766 => (if t766 = true then ((kU.f k a1_0 a1_1).bind fun t767 => (jJ.j0 k (!t767) a0_0 a0_1 a1_0 a1_1)) else (jJ.j0 k true a0_0 a0_1 a1_0 a1_1))) = some r := h
 clear h
 have HC3 := Aside0.mk H
 clear H
 go_enter Tryz.func55, Tryz.ntmps55
 go_upto_region 1 with (first | ((with_reducible refine gate_dst (N := 2) rfl ?_); refine box_event ?hg (N := 2) ?hd (cs := #[.int .i64 a0_0, .int .i64 a0_1]) (t := 36) ?hr ?_; (case hd => rfl); (case hg => rfl); (case hr => first | (go_simp; done) | (go_simp; rfl)); intro gb764 hg w4 hbox hb; have n0_ := Aside0.mk (jZ (by repeat (first | (with_reducible first | exact HB.out | apply kO | apply kF | apply kQ) | exact HB.out)) hb); have n1_ := Aside0.mk (hbox); have n2_ := Aside0.mk ((by rw [hg]; exact (zF (by repeat (first | (with_reducible first | exact HB.out | apply kO | apply kF | apply kQ) | exact HB.out))) : w.heap.size ≤ gb764)); have n3_ := Aside0.mk ((by rw [hg]; exact (zF (by repeat (first | (with_reducible first | exact HB.out | apply kO | apply kF | apply kQ) | exact HB.out))) : w.heap.size ≤ gb764)); clear HB; have HB := n0_; have BK764 := n1_; have GW764 := n2_; have GE764 := n3_; clear n0_ n1_ n2_ n3_; clear hb hbox hg) | ((with_reducible refine gate_dst (N := 3) rfl ?_); refine box_event ?hg (N := 3) ?hd (cs := #[.int .i64 a1_0, .int .i64 a1_1]) (t := 36) ?hr ?_; (case hd => rfl); (case hg => rfl); (case hr => first | (go_simp; done) | (go_simp; rfl)); intro gb765 hg w5 hbox hb; have n0_ := Aside0.mk (zH (g := gb764) (o := .cells #[.int .i64 a0_0, .int .i64 a0_1] 36 (0, 0)) (by (with_reducible repeat (first | refine bQ ?_ _ | refine bW ?_ | refine bP ?_ _)); exact BK764.out) hb); have n1_ := Aside0.mk (jZ (by repeat (first | (with_reducible first | exact HB.out | apply kO | apply kF | apply kQ | refine bA ?_ GE764.out) | exact HB.out)) hb); have n2_ := Aside0.mk (hbox); have n3_ := Aside0.mk ((by rw [hg]; exact (zF (by repeat (first | (with_reducible first | exact HB.out | apply kO | apply kF | apply kQ | refine bA ?_ GE764.out) | exact HB.out))) : w.heap.size ≤ gb765)); have n4_ := Aside0.mk ((by rw [hg]; exact (zF (by repeat (first | (with_reducible first | exact HB.out | apply kO | apply kF | apply kQ | refine bA ?_ GE764.out) | exact HB.out))) : w.heap.size ≤ gb765)); have n5_ := Aside0.mk ((by rw [hg]; exact Nat.ne_of_lt (blk_lt (g := gb764) (o := .cells #[.int .i64 a0_0, .int .i64 a0_1] 36 (0, 0)) (by (with_reducible repeat (first | refine bQ ?_ _ | refine bW ?_ | refine bP ?_ _)); exact BK764.out)) : gb764 ≠ gb765)); have n6_ := Aside0.mk ((by rw [hg]; exact Nat.ne_of_gt (blk_lt (g := gb764) (o := .cells #[.int .i64 a0_0, .int .i64 a0_1] 36 (0, 0)) (by (with_reducible repeat (first | refine bQ ?_ _ | refine bW ?_ | refine bP ?_ _)); exact BK764.out)) : gb765 ≠ gb764)); clear BK764; clear HB; have BK764 := n0_; have HB := n1_; have BK765 := n2_; have GW765 := n3_; have GE765 := n4_; have NB764_765 := n5_; have NB765_764 := n6_; clear n0_ n1_ n2_ n3_ n4_ n5_ n6_; clear hb hbox hg))
 (try simp only [Act.put, List.setIfInBounds_toArray, List.set_cons_zero, List.set_cons_succ])
 go_cut [12] (fun v12 wc => ∃ (kq : Nat) (x12_2 : Bool), v12 = .bool x12_2 ∧ Aside0 (jJ.j0 kq x12_2 a0_0 a0_1 a1_0 a1_1 = some r) ∧ Aside0 (kq ≤ k) ∧ Aside0 (wc.heap[gb764]? = some (.cells #[.int .i64 a0_0, .int .i64 a0_1] 36 (0, 0))) ∧ Aside0 (wc.heap[gb765]? = some (.cells #[.int .i64 a1_0, .int .i64 a1_1] 36 (0, 0))) ∧ Aside0 (Below w.heap.size w wc))
 case first =>
  have H := HC3.out
  clear HC3
  replace H := Option.bind_eq_some_iff.mp H
  obtain ⟨t766, A60, H⟩ := H
  replace H : (if t766 = true then ((kU.f k a1_0 a1_1).bind fun t767 => (jJ.j0 k (!t767) a0_0 a0_1 a1_0 a1_1)) else (jJ.j0 k true a0_0 a0_1 a1_0 a1_1)) = some r := H
  have A6 := Aside0.mk A60
  clear A60
  by_cases c7 : t766 = true
  · subst c7
    have H1 : ((kU.f k a1_0 a1_1).bind fun t767 => (jJ.j0 k (!t767) a0_0 a0_1 a1_0 a1_1)) = some r := by rw [if_pos rfl] at H; exact H
    clear H
    have H := H1
    clear H1
    replace H := Option.bind_eq_some_iff.mp H
    obtain ⟨t767, A80, H⟩ := H
    replace H : (jJ.j0 k (!t767) a0_0 a0_1 a1_0 a1_1) = some r := H
    have A8 := Aside0.mk A80
    clear A80
    have H' := Aside0.mk H
    clear H
    have hnb9 := NB764_765.out
    have hnc9 := NB765_764.out
    have hcz10_0 : w5.cell? ⟨gb764, 0, none⟩ = some (.int .i64 a0_0) := (jG BK764.out 0).trans rfl
    have hcz10_1 : w5.cell? ⟨gb764, 1, none⟩ = some (.int .i64 a0_1) := (jG BK764.out 1).trans rfl
    have hfz10_0 := jK BK764.out 0
    have hfz10_1 := jK BK764.out 1
    go_wp2_with (first | ((with_reducible refine kW (f := 51) rfl ?_); refine jI (some 6) rfl rfl Tryz.func51 (by kernel_rfl) rfl #[.agg #[.int .i64 a0_0, .int .i64 a0_1]] rfl (by (try simp only [List.map_toArray, List.map_cons, List.map_nil]); first | done | rfl | (simp only [List.length_drop, List.length_take]; rfl)) ?_; (with_reducible refine (kU.calls k a0_0 a0_1 true _ A6.out).mono ?_); rintro e w11 ⟨rfl, hb⟩; refine ⟨_, rfl, ?_⟩; have n0_ := Aside0.mk (zH (g := gb764) (o := .cells #[.int .i64 a0_0, .int .i64 a0_1] 36 (0, 0)) (by (with_reducible repeat (first | refine bQ ?_ _ | refine bW ?_ | refine bP ?_ _)); exact BK764.out) hb); have n1_ := Aside0.mk (zH (g := gb765) (o := .cells #[.int .i64 a1_0, .int .i64 a1_1] 36 (0, 0)) (by (with_reducible repeat (first | refine bQ ?_ _ | refine bW ?_ | refine bP ?_ _)); exact BK765.out) hb); have n2_ := Aside0.mk (jZ (by repeat (first | (with_reducible first | exact HB.out | apply kO | apply kF | apply kQ | refine bA ?_ GE764.out | refine bA ?_ GE765.out) | exact HB.out)) hb); clear BK764; clear BK765; clear HB; have BK764 := n0_; have BK765 := n1_; have HB := n2_; clear n0_ n1_ n2_; (try clear hb); (try clear hb2); (try clear hk); (try clear hi); have hcz12_0 : w11.cell? ⟨gb765, 0, none⟩ = some (.int .i64 a1_0) := (jG BK765.out 0).trans rfl; have hcz12_1 : w11.cell? ⟨gb765, 1, none⟩ = some (.int .i64 a1_1) := (jG BK765.out 1).trans rfl; have hfz12_0 := jK BK765.out 0; have hfz12_1 := jK BK765.out 1) | (go_at_call 51; (with_reducible refine (kU.calls k a1_0 a1_1 t767 _ A8.out).mono ?_); rintro e w13 ⟨rfl, hb⟩; have n0_ := Aside0.mk (zH (g := gb764) (o := .cells #[.int .i64 a0_0, .int .i64 a0_1] 36 (0, 0)) (by (with_reducible repeat (first | refine bQ ?_ _ | refine bW ?_ | refine bP ?_ _)); exact BK764.out) hb); have n1_ := Aside0.mk (zH (g := gb765) (o := .cells #[.int .i64 a1_0, .int .i64 a1_1] 36 (0, 0)) (by (with_reducible repeat (first | refine bQ ?_ _ | refine bW ?_ | refine bP ?_ _)); exact BK765.out) hb); have n2_ := Aside0.mk (jZ (by repeat (first | (with_reducible first | exact HB.out | apply kO | apply kF | apply kQ | refine bA ?_ GE764.out | refine bA ?_ GE765.out) | exact HB.out)) hb); clear BK764; clear BK765; clear HB; have BK764 := n0_; have BK765 := n1_; have HB := n2_; clear n0_ n1_ n2_; (try clear hb); (try clear hb2); (try clear hk); (try clear hi)))
    go_meet
    case rel => exact ⟨_, (!t767), (by first | rfl | (simp; done) | (simp [*]; done)), H', ⟨by first | omega | exact Nat.le_refl _⟩, ⟨by (with_reducible repeat (first | refine bQ ?_ _ | refine bW ?_ | refine bP ?_ _)); exact BK764.out⟩, ⟨by (with_reducible repeat (first | refine bQ ?_ _ | refine bW ?_ | refine bP ?_ _)); exact BK765.out⟩, ⟨by repeat (first | (with_reducible first | exact HB.out | apply kO | apply kF | apply kQ | refine bA ?_ GE764.out | refine bA ?_ GE765.out) | exact HB.out)⟩⟩
  · replace c7 := Bool.eq_false_iff.mpr c7
    subst c7
    have H1 : (jJ.j0 k true a0_0 a0_1 a1_0 a1_1) = some r := by rw [if_neg (show ¬ (false = true) by decide)] at H; exact H
    clear H
    have H := H1
    clear H1
    have H' := Aside0.mk H
    clear H
    have hnb14 := NB764_765.out
    have hnc14 := NB765_764.out
    have hcz15_0 : w5.cell? ⟨gb764, 0, none⟩ = some (.int .i64 a0_0) := (jG BK764.out 0).trans rfl
    have hcz15_1 : w5.cell? ⟨gb764, 1, none⟩ = some (.int .i64 a0_1) := (jG BK764.out 1).trans rfl
    have hfz15_0 := jK BK764.out 0
    have hfz15_1 := jK BK764.out 1
    go_wp2_with (first | ((with_reducible refine kW (f := 51) rfl ?_); refine jI (some 6) rfl rfl Tryz.func51 (by kernel_rfl) rfl #[.agg #[.int .i64 a0_0, .int .i64 a0_1]] rfl (by (try simp only [List.map_toArray, List.map_cons, List.map_nil]); first | done | rfl | (simp only [List.length_drop, List.length_take]; rfl)) ?_; (with_reducible refine (kU.calls k a0_0 a0_1 false _ A6.out).mono ?_); rintro e w16 ⟨rfl, hb⟩; refine ⟨_, rfl, ?_⟩; have n0_ := Aside0.mk (zH (g := gb764) (o := .cells #[.int .i64 a0_0, .int .i64 a0_1] 36 (0, 0)) (by (with_reducible repeat (first | refine bQ ?_ _ | refine bW ?_ | refine bP ?_ _)); exact BK764.out) hb); have n1_ := Aside0.mk (zH (g := gb765) (o := .cells #[.int .i64 a1_0, .int .i64 a1_1] 36 (0, 0)) (by (with_reducible repeat (first | refine bQ ?_ _ | refine bW ?_ | refine bP ?_ _)); exact BK765.out) hb); have n2_ := Aside0.mk (jZ (by repeat (first | (with_reducible first | exact HB.out | apply kO | apply kF | apply kQ | refine bA ?_ GE764.out | refine bA ?_ GE765.out) | exact HB.out)) hb); clear BK764; clear BK765; clear HB; have BK764 := n0_; have BK765 := n1_; have HB := n2_; clear n0_ n1_ n2_; (try clear hb); (try clear hb2); (try clear hk); (try clear hi)))
    go_meet
    case rel => exact ⟨_, (true), (by first | rfl | (simp; done) | (simp [*]; done)), H', ⟨by first | omega | exact Nat.le_refl _⟩, ⟨by (with_reducible repeat (first | refine bQ ?_ _ | refine bW ?_ | refine bP ?_ _)); exact BK764.out⟩, ⟨by (with_reducible repeat (first | refine bQ ?_ _ | refine bW ?_ | refine bP ?_ _)); exact BK765.out⟩, ⟨by repeat (first | (with_reducible first | exact HB.out | apply kO | apply kF | apply kQ | refine bA ?_ GE764.out | refine bA ?_ GE765.out) | exact HB.out)⟩⟩
 case rest =>
  clear HC3
  try clear c1
  try clear p2
  try clear c5
  try clear c7
  try clear c9
  try clear c14
  try clear hcz10_0
  try clear hcz10_1
  try clear hcz12_0
  try clear hcz12_1
  try clear hcz15_0
  try clear hcz15_1
  try clear hfz10_0
  try clear hfz10_1
  try clear hfz12_0
  try clear hfz12_1
  try clear hfz15_0
  try clear hfz15_1
  obtain ⟨kq, x12_2, rfl, HA, HJ2, BK764, BK765, HB⟩ := hcut
  cases kq with
  | zero => exact absurd HA.out (by simp [jJ.j0])
  | succ kj2 =>
   have H := HA.out
   clear HA
   simp only [jJ.j0] at H
   by_cases c17 : x12_2 = true
   · subst c17
     have H1 : (some 0) = some r := by rw [if_pos rfl] at H; exact H
     clear H
     have H := H1
     clear H1
     obtain rfl := Option.some.inj H
     go_wp2
     go_ret
     exact ⟨by first | rfl | (simp [zR, zS] <;> rfl) | (simp [*, zR, zS] <;> rfl), by repeat (first | (with_reducible first | exact HB.out | apply kO | apply kF | apply kQ | refine bA ?_ GE764.out | refine bA ?_ GE765.out) | exact HB.out)⟩
   · replace c17 := Bool.eq_false_iff.mpr c17
     subst c17
     have H1 : ((cmp_Compare_int.f a0_0 a1_0).bind fun t768 => ((vD.f a0_1 a1_1).bind fun t769 => ((zN.f kj2 (([t768, t769] : List Int))).bind fun t773 => (some t773)))) = some r := by rw [if_neg (show ¬ (false = true) by decide)] at H; exact H
     clear H
     have H := H1
     clear H1
     replace H := Option.bind_eq_some_iff.mp H
     obtain ⟨t768, A180, H⟩ := H
     replace H : ((vD.f a0_1 a1_1).bind fun t769 => ((zN.f kj2 (([t768, t769] : List Int))).bind fun t773 => (some t773))) = some r := H
     have A18 := Aside0.mk A180
     clear A180
     replace H := Option.bind_eq_some_iff.mp H
     obtain ⟨t769, A190, H⟩ := H
     replace H : ((zN.f kj2 (([t768, t769] : List Int))).bind fun t773 => (some t773)) = some r := H
     have A19 := Aside0.mk A190
     clear A190
     obtain ⟨y770, hy770⟩ : ∃ y_ : List Int, y_ = (([t768, t769] : List Int)) := ⟨_, rfl⟩
     replace H : ((zN.f kj2 y770).bind fun t773 => (some t773)) = some r := by first | (rw [hy770]; with_reducible exact H) | (have H2_ := (Option.bind_some _ _).symm.trans H; rw [hy770]; with_reducible exact H2_) | (have H2_ := (Option.bind_some _ _).symm.trans H; with_reducible exact H2_) | with_reducible exact H | (rw [hy770]; exact H) | exact H
     have Ny770 := Aside0.mk hy770
     clear hy770
     replace H := Option.bind_eq_some_iff.mp H
     obtain ⟨t773, A200, H⟩ := H
     replace H : (some t773) = some r := H
     have A20 := Aside0.mk A200
     clear A200
     obtain rfl := Option.some.inj H
     try go_wp2
     have n0_ := Aside0.mk (bW BK764.out)
     have n1_ := Aside0.mk (bW BK765.out)
     have n2_ := Aside0.mk (kQ HB.out)
     clear BK764
     clear BK765
     clear HB
     have BK764 := n0_
     have BK765 := n1_
     have HB := n2_
     clear n0_ n1_ n2_
     refine start_ (n := 13) (S := fun w' => w'.cell? ⟨gb764, 0, none⟩ = some (.int .i64 a0_0) ∧ w'.cell? ⟨gb764, 1, none⟩ = some (.int .i64 a0_1) ∧ w'.cell? ⟨gb765, 0, none⟩ = some (.int .i64 a1_0) ∧ w'.cell? ⟨gb765, 1, none⟩ = some (.int .i64 a1_1)) (ds := []) #[false, false, false, false, false, false, false, false, false, false, false, false, false] (by kernel_rfl) rfl rfl ⟨(jG BK764.out 0).trans rfl, (jG BK764.out 1).trans rfl, (jG BK765.out 0).trans rfl, (jG BK765.out 1).trans rfl⟩ (fun hHeld => ?_); refine with_tabW jJ.tab3 jJ.bits3 (fun HT_ HW_ => ?_)
     generalize wc.drew = w21 at BK764 BK765 HB hHeld ⊢
     refine pure_ (i := 0) (N := some 13) (v := ?_) (a' := ?_) #[true, false, false, false, false, false, false, false, false, false, false, false, false] rfl rfl (vC HT_.out (by kernel_rfl)) (fun _ _ _ h => h) (Or.inl ⟨by rfl, ?_⟩) ?_ ?_
     rotate_left
     · intro w'
       go_simp
       with_reducible rfl
     rotate_left
     · simp only [Act.put, List.setIfInBounds_toArray, List.set_cons_zero, List.set_cons_succ, qJ, qL]
       rfl
     refine pure_ (i := 2) (N := some 15) (v := ?_) (a' := ?_) #[true, false, true, false, false, false, false, false, false, false, false, false, false] rfl rfl (vC HT_.out (by kernel_rfl)) (fun _ _ _ h => h) (Or.inl ⟨by rfl, ?_⟩) ?_ ?_
     rotate_left
     · intro w'
       go_simp
       with_reducible rfl
     rotate_left
     · simp only [Act.put, List.setIfInBounds_toArray, List.set_cons_zero, List.set_cons_succ, qJ, qL]
       rfl
     refine pure_ (i := 5) (N := some 18) (v := ?_) (a' := ?_) #[true, false, true, false, false, true, false, false, false, false, false, false, false] rfl rfl (vC HT_.out (by kernel_rfl)) (fun _ _ _ h => h) (Or.inl ⟨by rfl, ?_⟩) ?_ ?_
     rotate_left
     · intro w'
       go_simp
       with_reducible rfl
     rotate_left
     · simp only [Act.put, List.setIfInBounds_toArray, List.set_cons_zero, List.set_cons_succ, qJ, qL]
       rfl
     refine pure_ (i := 7) (N := some 20) (v := ?_) (a' := ?_) #[true, false, true, false, false, true, false, true, false, false, false, false, false] rfl rfl (vC HT_.out (by kernel_rfl)) (fun _ _ _ h => h) (Or.inl ⟨by rfl, ?_⟩) ?_ ?_
     rotate_left
     · intro w'
       go_simp
       with_reducible rfl
     rotate_left
     · simp only [Act.put, List.setIfInBounds_toArray, List.set_cons_zero, List.set_cons_succ, qJ, qL]
       rfl
     refine take_ (i := 1) (N := some 14) (v := ?_) (a' := ?_) #[true, true, true, false, false, true, false, true, false, false, false, false, false] rfl rfl (take_ofW HT_.out HW_.out (by kernel_rfl)) (fun _ _ _ h => h) (Or.inl ⟨by rfl, ?_⟩) hHeld ?_ ?_
     rotate_left
     · rintro w' ⟨s0, s1, s2, s3⟩
       go_simp
       with_reducible rfl
     rotate_left
     · simp only [Act.put, List.setIfInBounds_toArray, List.set_cons_zero, List.set_cons_succ, qJ, qL]
       rfl
     refine take_ (i := 3) (N := some 16) (v := ?_) (a' := ?_) #[true, true, true, true, false, true, false, true, false, false, false, false, false] rfl rfl (take_ofW HT_.out HW_.out (by kernel_rfl)) (fun _ _ _ h => h) (Or.inl ⟨by rfl, ?_⟩) hHeld ?_ ?_
     rotate_left
     · rintro w' ⟨s0, s1, s2, s3⟩
       go_simp
       with_reducible rfl
     rotate_left
     · simp only [Act.put, List.setIfInBounds_toArray, List.set_cons_zero, List.set_cons_succ, qJ, qL]
       rfl
     refine take_ (i := 6) (N := some 19) (v := ?_) (a' := ?_) #[true, true, true, true, false, true, true, true, false, false, false, false, false] rfl rfl (take_ofW HT_.out HW_.out (by kernel_rfl)) (fun _ _ _ h => h) (Or.inl ⟨by rfl, ?_⟩) hHeld ?_ ?_
     rotate_left
     · rintro w' ⟨s0, s1, s2, s3⟩
       go_simp
       with_reducible rfl
     rotate_left
     · simp only [Act.put, List.setIfInBounds_toArray, List.set_cons_zero, List.set_cons_succ, qJ, qL]
       rfl
     refine take_ (i := 8) (N := some 21) (v := ?_) (a' := ?_) #[true, true, true, true, false, true, true, true, true, false, false, false, false] rfl rfl (take_ofW HT_.out HW_.out (by kernel_rfl)) (fun _ _ _ h => h) (Or.inl ⟨by rfl, ?_⟩) hHeld ?_ ?_
     rotate_left
     · rintro w' ⟨s0, s1, s2, s3⟩
       go_simp
       with_reducible rfl
     rotate_left
     · simp only [Act.put, List.setIfInBounds_toArray, List.set_cons_zero, List.set_cons_succ, qJ, qL]
       rfl
     refine one_ (i := 4) (N := some 17) #[true, true, true, true, true, true, true, true, true, false, false, false, false] rfl rfl (one_of HT_.out (by kernel_rfl)) (by decide) (fun K hK => ?_)
     refine goes_ Tryz.func101 (by kernel_rfl) rfl #[.int .i64 a0_0, .int .i64 a1_0] (by rfl) rfl rfl (by (try simp only [List.map_toArray, List.map_cons, List.map_nil]); first | done | rfl | (simp only [List.length_drop, List.length_take]; rfl)) ?_
     with_reducible refine (cmp_Compare_int.calls a0_0 a1_0 t768 _ A18.out).mono ?_
     rintro e w' ⟨rfl, ⟨nd, rfl⟩⟩
     refine ⟨_, rfl, ?_⟩
     refine hK.out _ _ ⟨(jG BK764.out 0).trans rfl, (jG BK764.out 1).trans rfl, (jG BK765.out 0).trans rfl, (jG BK765.out 1).trans rfl⟩ (fun hHeld => ?_)
     clear hK K
     refine norm_ (a' := ?_) ?_ ?_
     rotate_left
     · show Act.put _ (some 17) _ = _
       simp only [Act.put, List.setIfInBounds_toArray, List.set_cons_zero, List.set_cons_succ, qJ, qL]
       rfl
     refine one_ (i := 9) (N := some 22) #[true, true, true, true, true, true, true, true, true, true, false, false, false] rfl rfl (one_of HT_.out (by kernel_rfl)) (by decide) (fun K hK => ?_)
     refine goes_ Tryz.func102 (by kernel_rfl) rfl #[.int .i64 a0_1, .int .i64 a1_1] (by rfl) rfl rfl (by (try simp only [List.map_toArray, List.map_cons, List.map_nil]); first | done | rfl | (simp only [List.length_drop, List.length_take]; rfl)) ?_
     with_reducible refine (vD.calls a0_1 a1_1 t769 _ A19.out).mono ?_
     rintro e w' ⟨rfl, ⟨nd, rfl⟩⟩
     refine ⟨_, rfl, ?_⟩
     refine hK.out _ _ ⟨(jG BK764.out 0).trans rfl, (jG BK764.out 1).trans rfl, (jG BK765.out 0).trans rfl, (jG BK765.out 1).trans rfl⟩ (fun hHeld => ?_)
     clear hK K
     refine norm_ (a' := ?_) ?_ ?_
     rotate_left
     · show Act.put _ (some 22) _ = _
       simp only [Act.put, List.setIfInBounds_toArray, List.set_cons_zero, List.set_cons_succ, qJ, qL]
       rfl
     refine one_ (i := 10) (N := some 23) #[true, true, true, true, true, true, true, true, true, true, true, false, false] rfl rfl (one_of HT_.out (by kernel_rfl)) (by decide) (fun K hK => ?_)
     refine Kd.R_lit_step (Kd.int .i64) _ 3 ?hg (N := 23) ?hd (xs := ([t768, t769] : List Int)) (inner := [.int .i64 t768, .int .i64 t769]) (ok := fun _ => True) (okp := fun _ => True) ?hr ?hp (fun _ hk => hk) trivial (Below.refl _ _) (Nat.le_refl _) (by simp) ?_; (case hd => rfl); (case hg => rfl); (case hr => first | (go_simp; done) | (go_simp; rfl)); (case hp => exact (Reps.one (show Kd.M (Kd.int .i64) _ _ _ t768 [.int .i64 t768] from rfl) (Reps.one (show Kd.M (Kd.int .i64) _ _ _ t769 [.int .i64 t769] from rfl) (Reps.none _ _))))
     intro v771 w22 ho23 hb hg_ hnew_
     clear hg_ hnew_
     (first | rw [← Ny770.out] at ho23 | (simp only [Int.reduceToNat] at ho23; rw [← Ny770.out] at ho23))
     have n0_ := Aside0.mk (Kd.R_lower ho23 (zF (by repeat (first | (with_reducible first | exact HB.out | apply kO | apply kF | apply kQ | refine bA ?_ GE764.out | refine bA ?_ GE765.out) | exact HB.out))))
     have n1_ := Aside0.mk (zH (g := gb764) (o := .cells #[.int .i64 a0_0, .int .i64 a0_1] 36 (0, 0)) (by (with_reducible repeat (first | refine bQ ?_ _ | refine bW ?_ | refine bP ?_ _)); exact BK764.out) hb)
     have n2_ := Aside0.mk (zH (g := gb765) (o := .cells #[.int .i64 a1_0, .int .i64 a1_1] 36 (0, 0)) (by (with_reducible repeat (first | refine bQ ?_ _ | refine bW ?_ | refine bP ?_ _)); exact BK765.out) hb)
     have n3_ := Aside0.mk (jZ (by repeat (first | (with_reducible first | exact HB.out | apply kO | apply kF | apply kQ | refine bA ?_ GE764.out | refine bA ?_ GE765.out) | exact HB.out)) hb)
     clear BK764
     clear BK765
     clear HB
     have HO772 := n0_
     have BK764 := n1_
     have BK765 := n2_
     have HB := n3_
     clear n0_ n1_ n2_ n3_
     clear hb ho23
     obtain ⟨Ao24, co24, eo24⟩ := Kd.R_slice HO772.out
     (first | subst eo24 | (injection eo24 with f1_ f2_ f3_; have f4_ := f1_.symm; have f5_ := f3_.symm; clear f1_ f2_ f3_; subst f4_; subst f5_))
     refine hK.out _ _ ⟨(jG BK764.out 0).trans rfl, (jG BK764.out 1).trans rfl, (jG BK765.out 0).trans rfl, (jG BK765.out 1).trans rfl⟩ (fun hHeld => ?_)
     clear hK K
     refine norm_ (a' := ?_) ?_ ?_
     rotate_left
     · show Act.put _ (some 23) _ = _
       simp only [Act.put, List.setIfInBounds_toArray, List.set_cons_zero, List.set_cons_succ, qJ, qL]
       rfl
     refine one_ (i := 11) (N := some 24) #[true, true, true, true, true, true, true, true, true, true, true, true, false] rfl rfl (one_of HT_.out (by kernel_rfl)) (by decide) (fun K hK => ?_)
     refine goes_ Tryz.func100 (by kernel_rfl) rfl #[.slice Ao24 y770.length co24] (by rfl) rfl rfl (by (try simp only [List.map_toArray, List.map_cons, List.map_nil]); first | done | rfl | (simp only [List.length_drop, List.length_take]; rfl)) ?_
     with_reducible refine (zN.calls kj2 _ _ y770 t773 _ ?side1 ?side2 A20.out).mono ?_
     (case side1 => repeat (first | exact (Kd.R_reads' HO772.out).2.2 | (with_reducible refine Kd.C_alloc ?_ _) | (with_reducible refine Kd.C_drewN ?_ _) | (with_reducible refine Kd.C_drew ?_)))
     (case side2 => exact (Kd.R_reads' HO772.out).2.1)
     rintro e w' ⟨rfl, ⟨nd, rfl⟩⟩
     refine ⟨_, rfl, ?_⟩
     refine hK.out _ _ ⟨(jG BK764.out 0).trans rfl, (jG BK764.out 1).trans rfl, (jG BK765.out 0).trans rfl, (jG BK765.out 1).trans rfl⟩ (fun hHeld => ?_)
     clear hK K
     refine norm_ (a' := ?_) ?_ ?_
     rotate_left
     · show Act.put _ (some 24) _ = _
       simp only [Act.put, List.setIfInBounds_toArray, List.set_cons_zero, List.set_cons_succ, qJ, qL]
       rfl
     refine pure_ (i := 12) (N := some 4) (v := ?_) (a' := ?_) #[true, true, true, true, true, true, true, true, true, true, true, true, true] rfl rfl (vC HT_.out (by kernel_rfl)) (fun _ _ _ h => h) (Or.inl ⟨by rfl, ?_⟩) ?_ ?_
     rotate_left
     · intro w'
       go_simp
       with_reducible rfl
     rotate_left
     · simp only [Act.put, List.setIfInBounds_toArray, List.set_cons_zero, List.set_cons_succ, qJ, qL]
       rfl
     refine done_ (done_of HT_.out (by kernel_rfl)) ?_
     try go_wp2
     go_ret
     exact ⟨by first | rfl | (simp [zR, zS] <;> rfl) | (simp [*, zR, zS] <;> rfl), by repeat (first | (with_reducible first | exact HB.out | apply kO | apply kF | apply kQ | refine bA ?_ GE764.out | refine bA ?_ GE765.out) | exact HB.out)⟩
def span_Neg.f (a0_0 : Int) (a0_1 : Int) (a0_2 : Int) (a0_3 : Int) : Option (Int × Int × Int × Int × Int) := (qG.f a0_0 a0_1 a0_2 a0_3).bind fun t776 => (if t776 = true then (some (wrap64 (-a0_0), wrap64 (-a0_1), wrap64 (-a0_2), wrap64 (-a0_3), 0)) else (some (0, 0, 0, 0, 1)))
set_option maxRecDepth 100000 in
theorem span_Neg.vc (a0_0 : Int) (a0_1 : Int) (a0_2 : Int) (a0_3 : Int) (K : AV → Prop) : afv PA Tryz.prog (tab [(27, qG.con)]) noLoops 2 56 [.agg [.int .i64 a0_0, .int .i64 a0_1, .int .i64 a0_2, .int .i64 a0_3]] K = (brc (Option.isSome (qG.f a0_0 a0_1 a0_2 a0_3)) (∀ (m0 : Bool), m0 = gd (qG.f a0_0 a0_1 a0_2 a0_3) → brc (!m0) (K (AV.tup [AV.agg [AV.int IntKind.i64 0, AV.int IntKind.i64 0, AV.int IntKind.i64 0, AV.int IntKind.i64 0], AV.int IntKind.i64 1])) (K (AV.tup [AV.agg [AV.int IntKind.i64 (IntKind.wrap IntKind.i64 (0 - a0_0)), AV.int IntKind.i64 (IntKind.wrap IntKind.i64 (0 - a0_1)), AV.int IntKind.i64 (IntKind.wrap IntKind.i64 (0 - a0_2)), AV.int IntKind.i64 (IntKind.wrap IntKind.i64 (0 - a0_3))], AV.int IntKind.i64 0]))) False) := by kernel_rfl
set_option maxHeartbeats 1000000 in
set_option maxRecDepth 100000 in
theorem span_Neg.calls (a0_0 : Int) (a0_1 : Int) (a0_2 : Int) (a0_3 : Int) (r1 : Int) (r2 : Int) (r3 : Int) (r4 : Int) (r5 : Int) (w : World) (h : span_Neg.f a0_0 a0_1 a0_2 a0_3 = some (r1, r2, r3, r4, r5)) :
 Calls Tryz.prog 56 #[.agg #[.int .i64 a0_0, .int .i64 a0_1, .int .i64 a0_2, .int .i64 a0_3]] w fun e w' => e = .returned (.tuple #[.agg #[.int .i64 r1, .int .i64 r2, .int .i64 r3, .int .i64 r4], .int .i64 r5]) ∧ Below w.heap.size w w' := by
 refine bZ (A := [.agg #[.int .i64 a0_0, .int .i64 a0_1, .int .i64 a0_2, .int .i64 a0_3]]) (v := .tup [.agg [.int .i64 r1, .int .i64 r2, .int .i64 r3, .int .i64 r4], .int .i64 r5]) (kP (qG.cok) (jV)) ((span_Neg.vc a0_0 a0_1 a0_2 a0_3 _).mpr ?_) (by simp [kG, kK, kL, kH, kS, kM, jR]) (fun ρ V' hV => by simpa [kG, kK, kL, kH, kS, kM, bU] using hV)
 unfold span_Neg.f at h
 (try simp only [bne, Option.bind_eq_some_iff, bS] at h)
 (try simp only [bne, zM, wrap_i64])
 first
  | grind (splits := 60) [kD]
  | ((repeat' (first | (have or_ : Or _ _ := h; clear or_; rcases h with h | h) | (have or_ : Exists _ := h; clear or_; obtain ⟨_, h⟩ := h) | (have or_ : And _ _ := h; clear or_; obtain ⟨hq_, h⟩ := h))) <;> (try simp only [Option.some.injEq, Prod.mk.injEq, reduceCtorEq] at h) <;> (try subst_vars) <;> first | (simp_all [kD] <;> (try omega) <;> done) | grind (splits := 60) [kD])
  | (intros; subst_vars; simp_all [kD]; done)
end Go.Proofs.YtimgphlfaninnaaGreat.P
