import Derived.Test.YtimgphlfaninnaaGreatQciogboaici
import Derived.Test.YtimgphlfaninnaaGreatQdfoehbdgao
import Derived.Test.YtimgphlfaninnaaGreatQjnpockodeo
import Derived.Test.YtimgphlfaninnaaGreatQdodonhnjbp
import Derived.Test.YtimgphlfaninnaaGreatQmljkdhalhg
namespace Go.Proofs.YtimgphlfaninnaaGreat.P
open Go.RowKit Go.Proofs.YtimgphlfaninnaaGreatW.PrintWords Go.Proofs.YtimgphlfaninnaaGreatW.PrintLast Go.Proofs.YtimgphlfaninnaaGreatW.PrintMore
open Go.Proofs.YtimgphlfaninnaaGreat.A
 attribute [local go_sem] bR bQ jC jB bL bM bP bS
set_option linter.unusedVariables false
set_option linter.unusedSimpArgs false
def jN.f (k : Nat) (a0 : Int) (a1 : Int) : Option (Int × Int) := if a1 = 0 then some (0, 11) else wdRes a0 a1 (wdMd a0 a1, 0)
theorem jN.mono : ∀ a0 a1 k, LeO (jN.f k a0 a1) (jN.f (k + 1) a0 a1) := fun _ _ _ => LeO.refl _
theorem jN.calls (k : Nat) (a0 : Int) (a1 : Int) (r1 : Int) (r2 : Int) (w : World) (h : jN.f k a0 a1 = some (r1, r2)) :
 Calls Tryz.prog 71 #[.int .i64 a0, .int .i64 a1] w fun e w' => e = .returned (.tuple #[.int .i64 r1, .int .i64 r2]) ∧ Below w.heap.size w w' :=
 wdFMod_calls h
def bA.f (k : Nat) (a0 : Int) : Option (Int × Int) := (jT.f k a0 86400000000).bind fun bt578 => ((jN.f k a0 86400000000).bind fun bt580 => (some (bt578.1, bt580.1)))
theorem bA.mono : ∀ a0 k, LeO (bA.f k a0) (bA.f (k + 1) a0) := by
 intro a0 k
 unfold bA.f
 repeat' first
  | (with_reducible exact jT.mono _ _ _)
  | (with_reducible exact jN.mono _ _ _)
  | (with_reducible exact LeO.refl _)
  | (with_reducible exact LeO.none _)
  | (with_reducible refine LeO.ite ?_ ?_)
  | (with_reducible refine LeO.bind ?_ (fun _ => ?_))
  | exact jT.mono _ _ _
  | exact jN.mono _ _ _
  | exact LeO.none _
  | refine LeO.ite ?_ ?_
  | refine LeO.bind ?_ (fun _ => ?_)
set_option maxHeartbeats 8000000 in
set_option maxRecDepth 100000 in
theorem bA.calls (k : Nat) (a0 : Int) (r1 : Int) (r2 : Int) (w : World) (h : bA.f k a0 = some (r1, r2)) :
 Calls Tryz.prog 68 #[.int .i64 a0] w fun e w' => e = .returned (.tuple #[.int .i64 r1, .int .i64 r2]) ∧ Below w.heap.size w w' := by
 have HB := Aside0.mk (Below.refl w.heap.size w)
 have H : ((jT.f k a0 86400000000).bind fun bt578 => ((jN.f k a0 86400000000).bind fun bt580 => (some (bt578.1, bt580.1)))) = some (r1, r2) := h
 clear h
 replace H := Option.bind_eq_some_iff.mp H
 obtain ⟨⟨t578, t579⟩, A20, H⟩ := H
 replace H : ((jN.f k a0 86400000000).bind fun bt580 => (some (t578, bt580.1))) = some (r1, r2) := H
 have A2 := Aside0.mk A20
 clear A20
 replace H := Option.bind_eq_some_iff.mp H
 obtain ⟨⟨t580, t581⟩, A30, H⟩ := H
 replace H : (some (t578, t580)) = some (r1, r2) := H
 have A3 := Aside0.mk A30
 clear A30
 simp only [Option.some.injEq, Prod.mk.injEq] at H
 obtain ⟨rfl, rfl⟩ := H
 go_enter Tryz.func68, Tryz.ntmps68
 go_wp2_with (first | ((with_reducible refine bC (f := 70) rfl ?_); refine jH (some 10) rfl rfl Tryz.func70 (by kernel_rfl) rfl #[.int .i64 a0, .int .i64 86400000000] rfl (by (try simp only [List.map_toArray, List.map_cons, List.map_nil]); first | done | rfl | (simp only [List.length_drop, List.length_take]; rfl)) ?_; (with_reducible refine (jT.calls k a0 86400000000 t578 t579 _ A2.out).mono ?_); rintro e w4 ⟨rfl, hb⟩; refine ⟨_, rfl, ?_⟩; have n0_ := Aside0.mk (below_step (by repeat (first | (with_reducible first | exact HB.out | apply below_alloc | apply zG | apply below_drew1) | exact HB.out)) hb); clear HB; have HB := n0_; clear n0_; (try clear hb); (try clear hb2); (try clear hk); (try clear hi)) | ((with_reducible refine bC (f := 71) rfl ?_); refine jH (some 15) rfl rfl Tryz.func71 (by kernel_rfl) rfl #[.int .i64 a0, .int .i64 86400000000] rfl (by (try simp only [List.map_toArray, List.map_cons, List.map_nil]); first | done | rfl | (simp only [List.length_drop, List.length_take]; rfl)) ?_; (with_reducible refine (jN.calls k a0 86400000000 t580 t581 _ A3.out).mono ?_); rintro e w5 ⟨rfl, hb⟩; refine ⟨_, rfl, ?_⟩; have n0_ := Aside0.mk (below_step (by repeat (first | (with_reducible first | exact HB.out | apply below_alloc | apply zG | apply below_drew1) | exact HB.out)) hb); clear HB; have HB := n0_; clear n0_; (try clear hb); (try clear hb2); (try clear hk); (try clear hi)))
 go_ret2
 exact ⟨by first | rfl | (simp [errW_none, errW_some] <;> rfl) | (simp [*, errW_none, errW_some] <;> rfl), by repeat (first | (with_reducible first | exact HB.out | apply below_alloc | apply zG | apply below_drew1) | exact HB.out)⟩
noncomputable def bA.con (k : Nat) : Con
 | [.int .i64 a0] => some ((bA.f k a0).isSome, .tup [.int .i64 (gd (bA.f k a0)).1, .int .i64 (gd (bA.f k a0)).2])
 | _ => none
set_option maxRecDepth 100000 in
theorem bA.cok (k : Nat) : COk Tryz.prog 68 (bA.con k) := by
 intro args p v hc hp w A hA
 unfold bA.con at hc
 split at hc
 · rename_i a0
   simp only [Option.some.injEq, Prod.mk.injEq] at hc
   obtain ⟨rfl, rfl⟩ := hc
   rcases hf : bA.f k a0 with _ | ⟨r1, r2⟩
   · rw [hf] at hp; cases hp
   obtain rfl : A = [.int .i64 a0] := by simpa [kG, kL, kM, kN, kZ, kV, jP] using hA
   exact kK (fn := Tryz.f68) Tryz.func68 (by kernel_rfl) (by kernel_rfl) (bA.calls _ _ _ _ w hf) (fun _ => by simp [kH, kG, kL, kM, kN, kZ, kV, bK]) (fun _ h => h)
 · cases hc
def kE.f (k : Nat) (a0 : Int) : Option (Bool) := (kC.f k a0).bind fun bt582 => (if bt582.2.2.2 = 0 then (if bt582.1 ≥ (-4712) then (some (decide (bt582.1 ≤ 294276))) else (some false)) else (some false))
theorem kE.mono : ∀ a0 k, LeO (kE.f k a0) (kE.f (k + 1) a0) := by
 intro a0 k
 unfold kE.f
 repeat' first
  | (with_reducible exact kC.mono _ _)
  | (with_reducible exact LeO.refl _)
  | (with_reducible exact LeO.none _)
  | (with_reducible refine LeO.ite ?_ ?_)
  | (with_reducible refine LeO.bind ?_ (fun _ => ?_))
  | exact kC.mono _ _
  | exact LeO.none _
  | refine LeO.ite ?_ ?_
  | refine LeO.bind ?_ (fun _ => ?_)
set_option maxHeartbeats 8000000 in
set_option maxRecDepth 100000 in
theorem kE.calls (k : Nat) (a0 : Int) (r : Bool) (w : World) (h : kE.f k a0 = some r) :
 Calls Tryz.prog 69 #[.int .i64 a0] w fun e w' => e = .returned (.bool r) ∧ Drawn0 w w' := by
 have H : ((kC.f k a0).bind fun bt582 => (if bt582.2.2.2 = 0 then (if bt582.1 ≥ (-4712) then (some (decide (bt582.1 ≤ 294276))) else (some false)) else (some false))) = some r := h
 clear h
 replace H := Option.bind_eq_some_iff.mp H
 obtain ⟨⟨t582, t583, t584, t585⟩, A20, H⟩ := H
 replace H : (if t585 = 0 then (if t582 ≥ (-4712) then (some (decide (t582 ≤ 294276))) else (some false)) else (some false)) = some r := H
 have A2 := Aside0.mk A20
 clear A20
 by_cases c3 : t585 = 0
 · rw [if_pos c3] at H
   have c3b0 : (t585 == 0) = true := beq_iff_eq.mpr c3
   have c3b1 : (t585 != 0) = false := bne_eq_false_iff_eq.mpr c3
   clear c3
   by_cases c4 : t582 ≥ (-4712)
   · rw [if_pos c4] at H
     have c4b0 : decide ((-4712) ≤ t582) = true := decide_eq_true c4
     clear c4
     obtain rfl := Option.some.inj H
     go_enter Tryz.func69, Tryz.ntmps69
     go_wp2_with (first | ((with_reducible refine bC (f := 107) rfl ?_); refine jH (some 9) rfl rfl Tryz.func107 (by kernel_rfl) rfl #[.int .i64 a0] rfl (by (try simp only [List.map_toArray, List.map_cons, List.map_nil]); first | done | rfl | (simp only [List.length_drop, List.length_take]; rfl)) ?_; (with_reducible refine (kC.calls k a0 t582 t583 t584 t585 _ A2.out).mono ?_); rintro e w' ⟨rfl, ⟨nd, rfl⟩⟩; refine ⟨_, rfl, ?_⟩))
     go_ret
     exact ⟨by first | rfl | (simp; done) | (simp [*]; done), by repeat (first | exact Drawn0.refl _ | apply Drawn0.step)⟩
   · rw [if_neg c4] at H
     have c4b0 : decide ((-4712) ≤ t582) = false := decide_eq_false c4
     clear c4
     obtain rfl := Option.some.inj H
     go_enter Tryz.func69, Tryz.ntmps69
     go_wp2_with (first | ((with_reducible refine bC (f := 107) rfl ?_); refine jH (some 9) rfl rfl Tryz.func107 (by kernel_rfl) rfl #[.int .i64 a0] rfl (by (try simp only [List.map_toArray, List.map_cons, List.map_nil]); first | done | rfl | (simp only [List.length_drop, List.length_take]; rfl)) ?_; (with_reducible refine (kC.calls k a0 t582 t583 t584 t585 _ A2.out).mono ?_); rintro e w' ⟨rfl, ⟨nd, rfl⟩⟩; refine ⟨_, rfl, ?_⟩))
     go_ret
     exact ⟨by first | rfl | (simp; done) | (simp [*]; done), by repeat (first | exact Drawn0.refl _ | apply Drawn0.step)⟩
 · rw [if_neg c3] at H
   have c3b0 : (t585 == 0) = false := beq_eq_false_iff_ne.mpr c3
   have c3b1 : (t585 != 0) = true := bne_iff_ne.mpr c3
   obtain rfl := Option.some.inj H
   go_enter Tryz.func69, Tryz.ntmps69
   go_wp2_with (first | ((with_reducible refine bC (f := 107) rfl ?_); refine jH (some 9) rfl rfl Tryz.func107 (by kernel_rfl) rfl #[.int .i64 a0] rfl (by (try simp only [List.map_toArray, List.map_cons, List.map_nil]); first | done | rfl | (simp only [List.length_drop, List.length_take]; rfl)) ?_; (with_reducible refine (kC.calls k a0 t582 t583 t584 t585 _ A2.out).mono ?_); rintro e w' ⟨rfl, ⟨nd, rfl⟩⟩; refine ⟨_, rfl, ?_⟩))
   go_ret
   exact ⟨by first | rfl | (simp; done) | (simp [*]; done), by repeat (first | exact Drawn0.refl _ | apply Drawn0.step)⟩
noncomputable def kE.con (k : Nat) : Con
 | [.int .i64 a0] => some ((kE.f k a0).isSome, .bool (gd (kE.f k a0)))
 | _ => none
set_option maxRecDepth 100000 in
theorem kE.cok (k : Nat) : COk Tryz.prog 69 (kE.con k) := by
 intro args p v hc hp w A hA
 unfold kE.con at hc
 split at hc
 · rename_i a0
   simp only [Option.some.injEq, Prod.mk.injEq] at hc
   obtain ⟨rfl, rfl⟩ := hc
   rcases hf : kE.f k a0 with _ | r
   · rw [hf] at hp; cases hp
   obtain rfl : A = [.int .i64 a0] := by simpa [kG, kL, kM, kN, kZ, kV, jP] using hA
   exact kK (fn := Tryz.f69) Tryz.func69 (by kernel_rfl) (by kernel_rfl) (kE.calls _ _ _ w hf) (fun _ => by simp [kH, kG, kL, kM, kN, kZ, kV, bK]) (fun _ h => h.below)
 · cases hc
theorem kE.up {k : Nat} {a0 : Int} {r : Bool} (h : kE.f k a0 = some r) : kE.f (k + 1) a0 = some r := kE.mono a0 k _ h
theorem kE.le {a0 : Int} {r : Bool} {k n : Nat} (h : kE.f k a0 = some r) (hk : k ≤ n) : kE.f n a0 = some r := by
 induction hk with
 | refl => exact h
 | step _ ih => exact kE.up ih
def kW.f (k : Nat) (a0_0 : Int) (a0_1 : Int) : Option (Bool) := if a0_0 = 0 then ((bA.f k a0_1).bind fun bt587 => ((kE.f k bt587.1).bind fun t589 => (some t589))) else (if a0_0 = (-1) then (some (a0_1 == 0)) else (if a0_0 = 1 then (some (a0_1 == 0)) else (some false)))
theorem kW.mono : ∀ a0 a1 k, LeO (kW.f k a0 a1) (kW.f (k + 1) a0 a1) := by
 intro a0 a1 k
 unfold kW.f
 repeat' first
  | (with_reducible exact bA.mono _ _)
  | (with_reducible exact kE.mono _ _)
  | (with_reducible exact LeO.refl _)
  | (with_reducible exact LeO.none _)
  | (with_reducible refine LeO.ite ?_ ?_)
  | (with_reducible refine LeO.bind ?_ (fun _ => ?_))
  | exact bA.mono _ _
  | exact kE.mono _ _
  | exact LeO.none _
  | refine LeO.ite ?_ ?_
  | refine LeO.bind ?_ (fun _ => ?_)
set_option maxRecDepth 100000 in
theorem kW.vc (k : Nat) (a0_0 : Int) (a0_1 : Int) (K : AV → Prop) : afv PA Tryz.prog (tab [(68, bA.con k), (69, kE.con k)]) noLoops 2 30 [.agg [.int .i64 a0_0, .int .i64 a0_1]] K = (brc (a0_0 == 0) (brc (Option.isSome (bA.f k a0_1)) (∀ m0 : Int, m0 = Prod.fst (gd (bA.f k a0_1)) → ∀ m1 : Int, m1 = Prod.snd (gd (bA.f k a0_1)) → brc (Option.isSome (kE.f k m0)) (∀ m2 : Bool, m2 = gd (kE.f k m0) → K (AV.bool m2)) False) False) (brc (a0_0 == -1) (K (AV.bool (a0_1 == 0))) (brc (a0_0 == 1) (K (AV.bool (a0_1 == 0))) (K (AV.bool false))))) := by kernel_rfl
set_option maxHeartbeats 1000000 in
set_option maxRecDepth 100000 in
theorem kW.calls (k : Nat) (a0_0 : Int) (a0_1 : Int) (r : Bool) (w : World) (h : kW.f k a0_0 a0_1 = some r) :
 Calls Tryz.prog 30 #[.agg #[.int .i64 a0_0, .int .i64 a0_1]] w fun e w' => e = .returned (.bool r) ∧ Below w.heap.size w w' := by
 refine bW (A := [.agg #[.int .i64 a0_0, .int .i64 a0_1]]) (v := .bool r) (kD (bA.cok k) (kD (kE.cok k) (bE))) ((kW.vc k a0_0 a0_1 _).mpr ?_) (by simp [kG, kL, kM, kN, kZ, kV, jP]) (fun ρ V' hV => by simpa [kG, kL, kM, kN, kZ, kV, bK] using hV)
 unfold kW.f at h
 (try simp only [bne, Option.bind_eq_some_iff, bN] at h)
 (try simp only [bne, jS, wrap_i64])
 first
  | grind (splits := 60) [kH]
  | ((repeat' (first | (have or_ : Or _ _ := h; clear or_; rcases h with h | h) | (have or_ : Exists _ := h; clear or_; obtain ⟨_, h⟩ := h) | (have or_ : And _ _ := h; clear or_; obtain ⟨hq_, h⟩ := h))) <;> (try simp only [Option.some.injEq, Prod.mk.injEq, reduceCtorEq] at h) <;> (try subst_vars) <;> first | (simp_all [kH] <;> (try omega) <;> done) | grind (splits := 60) [kH])
  | (intros; subst_vars; simp_all [kH]; done)
noncomputable def kW.con (k : Nat) : Con
 | [.agg [.int .i64 a0_0, .int .i64 a0_1]] => some ((kW.f k a0_0 a0_1).isSome, .bool (gd (kW.f k a0_0 a0_1)))
 | _ => none
set_option maxRecDepth 100000 in
theorem kW.cok (k : Nat) : COk Tryz.prog 30 (kW.con k) := by
 intro args p v hc hp w A hA
 unfold kW.con at hc
 split at hc
 · rename_i a0_0 a0_1
   simp only [Option.some.injEq, Prod.mk.injEq] at hc
   obtain ⟨rfl, rfl⟩ := hc
   rcases hf : kW.f k a0_0 a0_1 with _ | r
   · rw [hf] at hp; cases hp
   obtain rfl : A = [.agg #[.int .i64 a0_0, .int .i64 a0_1]] := by simpa [kG, kL, kM, kN, kZ, kV, jP] using hA
   exact kK (fn := Tryz.f30) Tryz.func30 (by kernel_rfl) (by kernel_rfl) (kW.calls _ _ _ _ w hf) (fun _ => by simp [kH, kG, kL, kM, kN, kZ, kV, bK]) (fun _ h => h)
 · cases hc
def kI.f (k : Nat) (a0_0 : Int) (a0_1 : Int) : Option (Bool) := if a0_0 = 0 then ((kE.f k a0_1).bind fun t798 => (some t798)) else (if a0_0 = (-1) then (some (a0_1 == 0)) else (if a0_0 = 1 then (some (a0_1 == 0)) else (some false)))
theorem kI.mono : ∀ a0 a1 k, LeO (kI.f k a0 a1) (kI.f (k + 1) a0 a1) := by
 intro a0 a1 k
 unfold kI.f
 repeat' first
  | (with_reducible exact kE.mono _ _)
  | (with_reducible exact LeO.refl _)
  | (with_reducible exact LeO.none _)
  | (with_reducible refine LeO.ite ?_ ?_)
  | (with_reducible refine LeO.bind ?_ (fun _ => ?_))
  | exact kE.mono _ _
  | exact LeO.none _
  | refine LeO.ite ?_ ?_
  | refine LeO.bind ?_ (fun _ => ?_)
set_option maxRecDepth 100000 in
theorem kI.vc (k : Nat) (a0_0 : Int) (a0_1 : Int) (K : AV → Prop) : afv PA Tryz.prog (tab [(69, kE.con k)]) noLoops 2 106 [.agg [.int .i64 a0_0, .int .i64 a0_1]] K = (brc (a0_0 == 0) (brc (Option.isSome (kE.f k a0_1)) (∀ m0 : Bool, m0 = gd (kE.f k a0_1) → K (AV.bool m0)) False) (brc (a0_0 == -1) (K (AV.bool (a0_1 == 0))) (brc (a0_0 == 1) (K (AV.bool (a0_1 == 0))) (K (AV.bool false))))) := by kernel_rfl
set_option maxHeartbeats 1000000 in
set_option maxRecDepth 100000 in
theorem kI.calls (k : Nat) (a0_0 : Int) (a0_1 : Int) (r : Bool) (w : World) (h : kI.f k a0_0 a0_1 = some r) :
 Calls Tryz.prog 106 #[.agg #[.int .i64 a0_0, .int .i64 a0_1]] w fun e w' => e = .returned (.bool r) ∧ Below w.heap.size w w' := by
 refine bW (A := [.agg #[.int .i64 a0_0, .int .i64 a0_1]]) (v := .bool r) (kD (kE.cok k) (bE)) ((kI.vc k a0_0 a0_1 _).mpr ?_) (by simp [kG, kL, kM, kN, kZ, kV, jP]) (fun ρ V' hV => by simpa [kG, kL, kM, kN, kZ, kV, bK] using hV)
 unfold kI.f at h
 (try simp only [bne, Option.bind_eq_some_iff, bN] at h)
 (try simp only [bne, jS, wrap_i64])
 first
  | grind (splits := 60) [kH]
  | ((repeat' (first | (have or_ : Or _ _ := h; clear or_; rcases h with h | h) | (have or_ : Exists _ := h; clear or_; obtain ⟨_, h⟩ := h) | (have or_ : And _ _ := h; clear or_; obtain ⟨hq_, h⟩ := h))) <;> (try simp only [Option.some.injEq, Prod.mk.injEq, reduceCtorEq] at h) <;> (try subst_vars) <;> first | (simp_all [kH] <;> (try omega) <;> done) | grind (splits := 60) [kH])
  | (intros; subst_vars; simp_all [kH]; done)
noncomputable def kI.con (k : Nat) : Con
 | [.agg [.int .i64 a0_0, .int .i64 a0_1]] => some ((kI.f k a0_0 a0_1).isSome, .bool (gd (kI.f k a0_0 a0_1)))
 | _ => none
set_option maxRecDepth 100000 in
theorem kI.cok (k : Nat) : COk Tryz.prog 106 (kI.con k) := by
 intro args p v hc hp w A hA
 unfold kI.con at hc
 split at hc
 · rename_i a0_0 a0_1
   simp only [Option.some.injEq, Prod.mk.injEq] at hc
   obtain ⟨rfl, rfl⟩ := hc
   rcases hf : kI.f k a0_0 a0_1 with _ | r
   · rw [hf] at hp; cases hp
   obtain rfl : A = [.agg #[.int .i64 a0_0, .int .i64 a0_1]] := by simpa [kG, kL, kM, kN, kZ, kV, jP] using hA
   exact kK (fn := Tryz.f106) Tryz.func106 (by kernel_rfl) (by kernel_rfl) (kI.calls _ _ _ _ w hf) (fun _ => by simp [kH, kG, kL, kM, kN, kZ, kV, bK]) (fun _ h => h)
 · cases hc
theorem kI.up {k : Nat} {a0_0 : Int} {a0_1 : Int} {r : Bool} (h : kI.f k a0_0 a0_1 = some r) : kI.f (k + 1) a0_0 a0_1 = some r := kI.mono a0_0 a0_1 k _ h
theorem kI.le {a0_0 : Int} {a0_1 : Int} {r : Bool} {k n : Nat} (h : kI.f k a0_0 a0_1 = some r) (hk : k ≤ n) : kI.f n a0_0 a0_1 = some r := by
 induction hk with
 | refl => exact h
 | step _ ih => exact kI.up ih
def kY.f (k : Nat) (a0_0 : Int) (a0_1 : Int) : Option (Int × Int × Int × Int) := (kW.f k a0_0 a0_1).bind fun t852 => (if t852 = true then (if a0_0 = 0 then ((bA.f k a0_1).bind fun bt853 => (some (0, bt853.1, bt853.2, 0))) else (some (a0_0, 0, 0, 0))) else (some (0, 0, 0, 1)))
theorem kY.mono : ∀ a0 a1 k, LeO (kY.f k a0 a1) (kY.f (k + 1) a0 a1) := by
 intro a0 a1 k
 unfold kY.f
 repeat' first
  | (with_reducible exact bA.mono _ _)
  | (with_reducible exact kW.mono _ _ _)
  | (with_reducible exact LeO.refl _)
  | (with_reducible exact LeO.none _)
  | (with_reducible refine LeO.ite ?_ ?_)
  | (with_reducible refine LeO.bind ?_ (fun _ => ?_))
  | exact bA.mono _ _
  | exact kW.mono _ _ _
  | exact LeO.none _
  | refine LeO.ite ?_ ?_
  | refine LeO.bind ?_ (fun _ => ?_)
set_option maxRecDepth 100000 in
theorem kY.vc (k : Nat) (a0_0 : Int) (a0_1 : Int) (K : AV → Prop) : afv PA Tryz.prog (tab [(30, kW.con k), (68, bA.con k)]) noLoops 2 60 [.agg [.int .i64 a0_0, .int .i64 a0_1]] K = (brc (Option.isSome (kW.f k a0_0 a0_1)) (∀ m0 : Bool, m0 = gd (kW.f k a0_0 a0_1) → brc (!m0) (K (AV.tup [.agg [.int .i64 0, .int .i64 0], .int .i64 0, .int .i64 1])) (brc (a0_0 != 0) (K (AV.tup [.agg [.int .i64 a0_0, .int .i64 0], .int .i64 0, .int .i64 0])) (brc (Option.isSome (bA.f k a0_1)) (∀ m1 : Int, m1 = Prod.fst (gd (bA.f k a0_1)) → ∀ m2 : Int, m2 = Prod.snd (gd (bA.f k a0_1)) → K (AV.tup [.agg [.int .i64 0, .int .i64 m1], .int .i64 m2, .int .i64 0])) False))) False) := by kernel_rfl
set_option maxHeartbeats 1000000 in
set_option maxRecDepth 100000 in
theorem kY.calls (k : Nat) (a0_0 : Int) (a0_1 : Int) (r1 : Int) (r2 : Int) (r3 : Int) (r4 : Int) (w : World) (h : kY.f k a0_0 a0_1 = some (r1, r2, r3, r4)) :
 Calls Tryz.prog 60 #[.agg #[.int .i64 a0_0, .int .i64 a0_1]] w fun e w' => e = .returned (.tuple #[.agg #[.int .i64 r1, .int .i64 r2], .int .i64 r3, .int .i64 r4]) ∧ Below w.heap.size w w' := by
 refine bW (A := [.agg #[.int .i64 a0_0, .int .i64 a0_1]]) (v := .tup [.agg [.int .i64 r1, .int .i64 r2], .int .i64 r3, .int .i64 r4]) (kD (kW.cok k) (kD (bA.cok k) (bE))) ((kY.vc k a0_0 a0_1 _).mpr ?_) (by simp [kG, kL, kM, kN, kZ, kV, jP]) (fun ρ V' hV => by simpa [kG, kL, kM, kN, kZ, kV, bK] using hV)
 unfold kY.f at h
 (try simp only [bne, Option.bind_eq_some_iff, bN] at h)
 (try simp only [bne, jS, wrap_i64])
 first
  | grind (splits := 60) [kH]
  | ((repeat' (first | (have or_ : Or _ _ := h; clear or_; rcases h with h | h) | (have or_ : Exists _ := h; clear or_; obtain ⟨_, h⟩ := h) | (have or_ : And _ _ := h; clear or_; obtain ⟨hq_, h⟩ := h))) <;> (try simp only [Option.some.injEq, Prod.mk.injEq, reduceCtorEq] at h) <;> (try subst_vars) <;> first | (simp_all [kH] <;> (try omega) <;> done) | grind (splits := 60) [kH])
  | (intros; subst_vars; simp_all [kH]; done)
noncomputable def kY.con (k : Nat) : Con
 | [.agg [.int .i64 a0_0, .int .i64 a0_1]] => some ((kY.f k a0_0 a0_1).isSome, .tup [.agg [.int .i64 (gd (kY.f k a0_0 a0_1)).1, .int .i64 (gd (kY.f k a0_0 a0_1)).2.1], .int .i64 (gd (kY.f k a0_0 a0_1)).2.2.1, .int .i64 (gd (kY.f k a0_0 a0_1)).2.2.2])
 | _ => none
set_option maxRecDepth 100000 in
theorem kY.cok (k : Nat) : COk Tryz.prog 60 (kY.con k) := by
 intro args p v hc hp w A hA
 unfold kY.con at hc
 split at hc
 · rename_i a0_0 a0_1
   simp only [Option.some.injEq, Prod.mk.injEq] at hc
   obtain ⟨rfl, rfl⟩ := hc
   rcases hf : kY.f k a0_0 a0_1 with _ | ⟨r1, r2, r3, r4⟩
   · rw [hf] at hp; cases hp
   obtain rfl : A = [.agg #[.int .i64 a0_0, .int .i64 a0_1]] := by simpa [kG, kL, kM, kN, kZ, kV, jP] using hA
   exact kK (fn := Tryz.f60) Tryz.func60 (by kernel_rfl) (by kernel_rfl) (kY.calls _ _ _ _ _ _ _ w hf) (fun _ => by simp [kH, kG, kL, kM, kN, kZ, kV, bK]) (fun _ h => h)
 · cases hc
theorem kY.up {k : Nat} {a0_0 : Int} {a0_1 : Int} {r : Int × Int × Int × Int} (h : kY.f k a0_0 a0_1 = some r) : kY.f (k + 1) a0_0 a0_1 = some r := kY.mono a0_0 a0_1 k _ h
theorem kY.le {a0_0 : Int} {a0_1 : Int} {r : Int × Int × Int × Int} {k n : Nat} (h : kY.f k a0_0 a0_1 = some r) (hk : k ≤ n) : kY.f n a0_0 a0_1 = some r := by
 induction hk with
 | refl => exact h
 | step _ ih => exact kY.up ih
def kS.f (k : Nat) (a0 : Int) (a1 : Int) : Option (Int × Int × Int) := if a1 = 0 then ((kE.f k a0).bind fun t856 => (if t856 = true then (some (0, a0, 0)) else (some (0, 0, 10)))) else (some (0, 0, 10))
theorem kS.mono : ∀ a0 a1 k, LeO (kS.f k a0 a1) (kS.f (k + 1) a0 a1) := by
 intro a0 a1 k
 unfold kS.f
 repeat' first
  | (with_reducible exact kE.mono _ _)
  | (with_reducible exact LeO.refl _)
  | (with_reducible exact LeO.none _)
  | (with_reducible refine LeO.ite ?_ ?_)
  | (with_reducible refine LeO.bind ?_ (fun _ => ?_))
  | exact kE.mono _ _
  | exact LeO.none _
  | refine LeO.ite ?_ ?_
  | refine LeO.bind ?_ (fun _ => ?_)
set_option maxRecDepth 100000 in
theorem kS.vc (k : Nat) (a0 : Int) (a1 : Int) (K : AV → Prop) : afv PA Tryz.prog (tab [(69, kE.con k)]) noLoops 2 125 [.int .i64 a0, .int .i64 a1] K = (brc (a1 != 0) (K (AV.tup [.agg [.int .i64 0, .int .i64 0], .int .i64 10])) (brc (Option.isSome (kE.f k a0)) (∀ m0 : Bool, m0 = gd (kE.f k a0) → brc (!m0) (K (AV.tup [.agg [.int .i64 0, .int .i64 0], .int .i64 10])) (K (AV.tup [.agg [.int .i64 0, .int .i64 a0], .int .i64 0]))) False)) := by kernel_rfl
set_option maxHeartbeats 1000000 in
set_option maxRecDepth 100000 in
theorem kS.calls (k : Nat) (a0 : Int) (a1 : Int) (r1 : Int) (r2 : Int) (r3 : Int) (w : World) (h : kS.f k a0 a1 = some (r1, r2, r3)) :
 Calls Tryz.prog 125 #[.int .i64 a0, .int .i64 a1] w fun e w' => e = .returned (.tuple #[.agg #[.int .i64 r1, .int .i64 r2], .int .i64 r3]) ∧ Below w.heap.size w w' := by
 refine bW (A := [.int .i64 a0, .int .i64 a1]) (v := .tup [.agg [.int .i64 r1, .int .i64 r2], .int .i64 r3]) (kD (kE.cok k) (bE)) ((kS.vc k a0 a1 _).mpr ?_) (by simp [kG, kL, kM, kN, kZ, kV, jP]) (fun ρ V' hV => by simpa [kG, kL, kM, kN, kZ, kV, bK] using hV)
 unfold kS.f at h
 (try simp only [bne, Option.bind_eq_some_iff, bN] at h)
 (try simp only [bne, jS, wrap_i64])
 first
  | grind (splits := 60) [kH]
  | ((repeat' (first | (have or_ : Or _ _ := h; clear or_; rcases h with h | h) | (have or_ : Exists _ := h; clear or_; obtain ⟨_, h⟩ := h) | (have or_ : And _ _ := h; clear or_; obtain ⟨hq_, h⟩ := h))) <;> (try simp only [Option.some.injEq, Prod.mk.injEq, reduceCtorEq] at h) <;> (try subst_vars) <;> first | (simp_all [kH] <;> (try omega) <;> done) | grind (splits := 60) [kH])
  | (intros; subst_vars; simp_all [kH]; done)
noncomputable def kS.con (k : Nat) : Con
 | [.int .i64 a0, .int .i64 a1] => some ((kS.f k a0 a1).isSome, .tup [.agg [.int .i64 (gd (kS.f k a0 a1)).1, .int .i64 (gd (kS.f k a0 a1)).2.1], .int .i64 (gd (kS.f k a0 a1)).2.2])
 | _ => none
set_option maxRecDepth 100000 in
theorem kS.cok (k : Nat) : COk Tryz.prog 125 (kS.con k) := by
 intro args p v hc hp w A hA
 unfold kS.con at hc
 split at hc
 · rename_i a0 a1
   simp only [Option.some.injEq, Prod.mk.injEq] at hc
   obtain ⟨rfl, rfl⟩ := hc
   rcases hf : kS.f k a0 a1 with _ | ⟨r1, r2, r3⟩
   · rw [hf] at hp; cases hp
   obtain rfl : A = [.int .i64 a0, .int .i64 a1] := by simpa [kG, kL, kM, kN, kZ, kV, jP] using hA
   exact kK (fn := Tryz.f125) Tryz.func125 (by kernel_rfl) (by kernel_rfl) (kS.calls _ _ _ _ _ _ w hf) (fun _ => by simp [kH, kG, kL, kM, kN, kZ, kV, bK]) (fun _ h => h)
 · cases hc
def kJ.j0 : Nat → Int → Int → Int → Int → Bool → Option (Int × Int)
 | 0, _, _, _, _, _ => none
 | k + 1, x1, x6, x7, x8, x27 => if x27 = true then (some (0, 10)) else ((jG.f (wrap64 ((wrap64 ((wrap64 ((wrap64 (12 * x6)) + x7)) - 1)) + x1)) 12).bind fun t861 => ((kU.f (wrap64 ((wrap64 ((wrap64 ((wrap64 (12 * x6)) + x7)) - 1)) + x1)) 12).bind fun t862 => ((kA.f k t861 (wrap64 (t862 + 1))).bind fun t863 => (if x8 > t863 then ((kA.f k t861 (wrap64 (t862 + 1))).bind fun t864 => ((bF.f k t861 (wrap64 (t862 + 1)) t864).bind fun bt865 => (some (bt865.1, bt865.2)))) else ((bF.f k t861 (wrap64 (t862 + 1)) x8).bind fun bt867 => (some (bt867.1, bt867.2)))))))
def kJ.f (k : Nat) (a0 : Int) (a1 : Int) : Option (Int × Int) := (kC.f k a0).bind fun bt857 => (if bt857.2.2.2 = 0 then (if a1 > 3600000 then (kJ.j0 k a1 bt857.1 bt857.2.1 bt857.2.2.1 true) else (kJ.j0 k a1 bt857.1 bt857.2.1 bt857.2.2.1 (decide (a1 < (-3600000))))) else (kJ.j0 k a1 bt857.1 bt857.2.1 bt857.2.2.1 true))
theorem kJ.mono_l : ∀ k, (∀ y0 y1 y2 y3 y4, LeO (kJ.j0 k y0 y1 y2 y3 y4) (kJ.j0 (k + 1) y0 y1 y2 y3 y4))
 | 0 => fun _ _ _ _ _ r h => by simp [kJ.j0] at h
 | k + 1 => by
  have ih0 := kJ.mono_l k
  · intro y0 y1 y2 y3 y4
    unfold kJ.j0
    repeat' first
    | (with_reducible exact ih0 _ _ _ _ _)
    | (with_reducible exact kC.mono _ _)
    | (with_reducible exact bF.mono _ _ _ _)
    | (with_reducible exact kA.mono _ _ _)
    | (with_reducible exact LeO.refl _)
    | (with_reducible exact LeO.none _)
    | (with_reducible refine LeO.ite ?_ ?_)
    | (with_reducible refine LeO.bind ?_ (fun _ => ?_))
    | exact ih0 _ _ _ _ _
    | exact kC.mono _ _
    | exact bF.mono _ _ _ _
    | exact kA.mono _ _ _
    | exact LeO.none _
    | refine LeO.ite ?_ ?_
    | refine LeO.bind ?_ (fun _ => ?_)
theorem kJ.mono : ∀ a0 a1 k, LeO (kJ.f k a0 a1) (kJ.f (k + 1) a0 a1) := by
 intro a0 a1 k
 have ih0 := kJ.mono_l k
 unfold kJ.f
 repeat' first
  | (with_reducible exact ih0 _ _ _ _ _)
  | (with_reducible exact kC.mono _ _)
  | (with_reducible exact bF.mono _ _ _ _)
  | (with_reducible exact kA.mono _ _ _)
  | (with_reducible exact LeO.refl _)
  | (with_reducible exact LeO.none _)
  | (with_reducible refine LeO.ite ?_ ?_)
  | (with_reducible refine LeO.bind ?_ (fun _ => ?_))
  | exact ih0 _ _ _ _ _
  | exact kC.mono _ _
  | exact bF.mono _ _ _ _
  | exact kA.mono _ _ _
  | exact LeO.none _
  | refine LeO.ite ?_ ?_
  | refine LeO.bind ?_ (fun _ => ?_)
set_option maxHeartbeats 8000000 in
set_option maxRecDepth 100000 in
theorem kJ.calls (k : Nat) (a0 : Int) (a1 : Int) (r1 : Int) (r2 : Int) (w : World) (h : kJ.f k a0 a1 = some (r1, r2)) :
 Calls Tryz.prog 126 #[.int .i64 a0, .int .i64 a1] w fun e w' => e = .returned (.tuple #[.int .i64 r1, .int .i64 r2]) ∧ Drawn0 w w' := by
 have H : ((kC.f k a0).bind fun bt857 => (if bt857.2.2.2 = 0 then (if a1 > 3600000 then (kJ.j0 k a1 bt857.1 bt857.2.1 bt857.2.2.1 true) else (kJ.j0 k a1 bt857.1 bt857.2.1 bt857.2.2.1 (decide (a1 < (-3600000))))) else (kJ.j0 k a1 bt857.1 bt857.2.1 bt857.2.2.1 true))) = some (r1, r2) := h
 clear h
 replace H := Option.bind_eq_some_iff.mp H
 obtain ⟨⟨t857, t858, t859, t860⟩, A30, H⟩ := H
 replace H : (if t860 = 0 then (if a1 > 3600000 then (kJ.j0 k a1 t857 t858 t859 true) else (kJ.j0 k a1 t857 t858 t859 (decide (a1 < (-3600000))))) else (kJ.j0 k a1 t857 t858 t859 true)) = some (r1, r2) := H
 have A3 := Aside0.mk A30
 clear A30
 have HC4 := Aside0.mk H
 clear H
 go_enter Tryz.func126, Tryz.ntmps126
 go_upto_region 2 with (first | ((with_reducible refine bC (f := 107) rfl ?_); refine jH (some 13) rfl rfl Tryz.func107 (by kernel_rfl) rfl #[.int .i64 a0] rfl (by (try simp only [List.map_toArray, List.map_cons, List.map_nil]); first | done | rfl | (simp only [List.length_drop, List.length_take]; rfl)) ?_; (with_reducible refine (kC.calls k a0 t857 t858 t859 t860 _ A3.out).mono ?_); rintro e w' ⟨rfl, ⟨nd, rfl⟩⟩; refine ⟨_, rfl, ?_⟩))
 (try simp only [Act.put, List.setIfInBounds_toArray, List.set_cons_zero, List.set_cons_succ])
 go_cut [27] (fun v27 wc => ∃ (kq : Nat) (x27_3 : Bool), v27 = .bool x27_3 ∧ Aside0 (kJ.j0 kq a1 t857 t858 t859 x27_3 = some (r1, r2)) ∧ Aside0 (kq ≤ k) ∧ Drawn0 w wc)
 case first =>
  have H := HC4.out
  clear HC4
  by_cases c5 : t860 = 0
  · rw [if_pos c5] at H
    have c5b0 : (t860 == 0) = true := beq_iff_eq.mpr c5
    have c5b1 : (t860 != 0) = false := bne_eq_false_iff_eq.mpr c5
    clear c5
    (first | rw [c5b0] | (simp only [i64_w, i32_w]; rw [c5b0]) | skip)
    by_cases c6 : a1 > 3600000
    · rw [if_pos c6] at H
      have c6b0 : decide (3600000 < a1) = true := decide_eq_true c6
      clear c6
      have H' := Aside0.mk H
      clear H
      go_wp2
      go_meet
      case rel => exact ⟨_, (true), (by first | rfl | (simp; done) | (simp [*]; done)), H', ⟨by first | omega | exact Nat.le_refl _⟩, by repeat (first | exact Drawn0.refl _ | apply Drawn0.step)⟩
    · rw [if_neg c6] at H
      have c6b0 : decide (3600000 < a1) = false := decide_eq_false c6
      clear c6
      have H' := Aside0.mk H
      clear H
      go_wp2
      go_meet
      case rel => exact ⟨_, (decide (a1 < (-3600000))), (by first | rfl | (simp; done) | (simp [*]; done)), H', ⟨by first | omega | exact Nat.le_refl _⟩, by repeat (first | exact Drawn0.refl _ | apply Drawn0.step)⟩
  · rw [if_neg c5] at H
    have c5b0 : (t860 == 0) = false := beq_eq_false_iff_ne.mpr c5
    have c5b1 : (t860 != 0) = true := bne_iff_ne.mpr c5
    (first | rw [c5b0] | (simp only [i64_w, i32_w]; rw [c5b0]) | skip)
    have H' := Aside0.mk H
    clear H
    go_wp2
    go_meet
    case rel => exact ⟨_, (true), (by first | rfl | (simp; done) | (simp [*]; done)), H', ⟨by first | omega | exact Nat.le_refl _⟩, by repeat (first | exact Drawn0.refl _ | apply Drawn0.step)⟩
 case rest =>
  clear HC4
  try clear c1
  try clear p2
  try clear c5
  try clear c5b0
  try clear c5b1
  try clear c6
  try clear c6b0
  obtain ⟨kq, x27_3, rfl, HA, HJ3, ⟨mc3, rfl⟩⟩ := hcut
  cases kq with
  | zero => exact absurd HA.out (by simp [kJ.j0])
  | succ kj3 =>
   have H := HA.out
   clear HA
   simp only [kJ.j0] at H
   by_cases c7 : x27_3 = true
   · subst c7
     have H1 : (some (0, 10)) = some (r1, r2) := by rw [if_pos rfl] at H; exact H
     clear H
     have H := H1
     clear H1
     simp only [Option.some.injEq, Prod.mk.injEq] at H
     obtain ⟨rfl, rfl⟩ := H
     go_wp2
     go_ret2
     exact ⟨by first | rfl | (simp; done) | (simp [*]; done), by repeat (first | exact Drawn0.refl _ | apply Drawn0.step)⟩
   · replace c7 := Bool.eq_false_iff.mpr c7
     subst c7
     have H1 : ((jG.f (wrap64 ((wrap64 ((wrap64 ((wrap64 (12 * t857)) + t858)) - 1)) + a1)) 12).bind fun t861 => ((kU.f (wrap64 ((wrap64 ((wrap64 ((wrap64 (12 * t857)) + t858)) - 1)) + a1)) 12).bind fun t862 => ((kA.f kj3 t861 (wrap64 (t862 + 1))).bind fun t863 => (if t859 > t863 then ((kA.f kj3 t861 (wrap64 (t862 + 1))).bind fun t864 => ((bF.f kj3 t861 (wrap64 (t862 + 1)) t864).bind fun bt865 => (some (bt865.1, bt865.2)))) else ((bF.f kj3 t861 (wrap64 (t862 + 1)) t859).bind fun bt867 => (some (bt867.1, bt867.2))))))) = some (r1, r2) := by rw [if_neg (show ¬ (false = true) by decide)] at H; exact H
     clear H
     have H := H1
     clear H1
     replace H := Option.bind_eq_some_iff.mp H
     obtain ⟨t861, A80, H⟩ := H
     replace H : ((kU.f (wrap64 ((wrap64 ((wrap64 ((wrap64 (12 * t857)) + t858)) - 1)) + a1)) 12).bind fun t862 => ((kA.f kj3 t861 (wrap64 (t862 + 1))).bind fun t863 => (if t859 > t863 then ((kA.f kj3 t861 (wrap64 (t862 + 1))).bind fun t864 => ((bF.f kj3 t861 (wrap64 (t862 + 1)) t864).bind fun bt865 => (some (bt865.1, bt865.2)))) else ((bF.f kj3 t861 (wrap64 (t862 + 1)) t859).bind fun bt867 => (some (bt867.1, bt867.2)))))) = some (r1, r2) := H
     have A8 := Aside0.mk A80
     clear A80
     replace H := Option.bind_eq_some_iff.mp H
     obtain ⟨t862, A90, H⟩ := H
     replace H : ((kA.f kj3 t861 (wrap64 (t862 + 1))).bind fun t863 => (if t859 > t863 then ((kA.f kj3 t861 (wrap64 (t862 + 1))).bind fun t864 => ((bF.f kj3 t861 (wrap64 (t862 + 1)) t864).bind fun bt865 => (some (bt865.1, bt865.2)))) else ((bF.f kj3 t861 (wrap64 (t862 + 1)) t859).bind fun bt867 => (some (bt867.1, bt867.2))))) = some (r1, r2) := H
     have A9 := Aside0.mk A90
     clear A90
     replace H := Option.bind_eq_some_iff.mp H
     obtain ⟨t863, A100, H⟩ := H
     replace H : (if t859 > t863 then ((kA.f kj3 t861 (wrap64 (t862 + 1))).bind fun t864 => ((bF.f kj3 t861 (wrap64 (t862 + 1)) t864).bind fun bt865 => (some (bt865.1, bt865.2)))) else ((bF.f kj3 t861 (wrap64 (t862 + 1)) t859).bind fun bt867 => (some (bt867.1, bt867.2)))) = some (r1, r2) := H
     have A10 := Aside0.mk A100
     clear A100
     by_cases c11 : t859 > t863
     · rw [if_pos c11] at H
       have c11b0 : decide (t863 < t859) = true := decide_eq_true c11
       clear c11
       replace H := Option.bind_eq_some_iff.mp H
       obtain ⟨t864, A120, H⟩ := H
       replace H : ((bF.f kj3 t861 (wrap64 (t862 + 1)) t864).bind fun bt865 => (some (bt865.1, bt865.2))) = some (r1, r2) := H
       have A12 := Aside0.mk A120
       clear A120
       replace H := Option.bind_eq_some_iff.mp H
       obtain ⟨⟨t865, t866⟩, A130, H⟩ := H
       replace H : (some (t865, t866)) = some (r1, r2) := H
       have A13 := Aside0.mk A130
       clear A130
       simp only [Option.some.injEq, Prod.mk.injEq] at H
       obtain ⟨rfl, rfl⟩ := H
       go_wp2_with (first | ((with_reducible refine bC (f := 140) rfl ?_); refine jH (some 36) rfl rfl Tryz.func140 (by kernel_rfl) rfl #[.int .i64 (wrap64 ((wrap64 ((wrap64 ((wrap64 (12 * t857)) + t858)) - 1)) + a1)), .int .i64 12] rfl (by (try simp only [List.map_toArray, List.map_cons, List.map_nil]); first | done | rfl | (simp only [List.length_drop, List.length_take]; rfl)) ?_; (with_reducible refine (jG.calls (wrap64 ((wrap64 ((wrap64 ((wrap64 (12 * t857)) + t858)) - 1)) + a1)) 12 t861 _ A8.out).mono ?_); rintro e w' ⟨rfl, ⟨nd, rfl⟩⟩; refine ⟨_, rfl, ?_⟩) | ((with_reducible refine bC (f := 141) rfl ?_); refine jH (some 38) rfl rfl Tryz.func141 (by kernel_rfl) rfl #[.int .i64 (wrap64 ((wrap64 ((wrap64 ((wrap64 (12 * t857)) + t858)) - 1)) + a1)), .int .i64 12] rfl (by (try simp only [List.map_toArray, List.map_cons, List.map_nil]); first | done | rfl | (simp only [List.length_drop, List.length_take]; rfl)) ?_; (with_reducible refine (kU.calls (wrap64 ((wrap64 ((wrap64 ((wrap64 (12 * t857)) + t858)) - 1)) + a1)) 12 t862 _ A9.out).mono ?_); rintro e w' ⟨rfl, ⟨nd, rfl⟩⟩; refine ⟨_, rfl, ?_⟩) | ((with_reducible refine bC (f := 143) rfl ?_); refine jH (some 43) rfl rfl Tryz.func143 (by kernel_rfl) rfl #[.int .i64 t861, .int .i64 (wrap64 (t862 + 1))] rfl (by (try simp only [List.map_toArray, List.map_cons, List.map_nil]); first | done | rfl | (simp only [List.length_drop, List.length_take]; rfl)) ?_; (with_reducible refine (kA.calls kj3 t861 (wrap64 (t862 + 1)) t863 _ A10.out).mono ?_); rintro e w' ⟨rfl, ⟨nd, rfl⟩⟩; refine ⟨_, rfl, ?_⟩) | ((with_reducible refine bC (f := 143) rfl ?_); refine jH (some 47) rfl rfl Tryz.func143 (by kernel_rfl) rfl #[.int .i64 t861, .int .i64 (wrap64 (t862 + 1))] rfl (by (try simp only [List.map_toArray, List.map_cons, List.map_nil]); first | done | rfl | (simp only [List.length_drop, List.length_take]; rfl)) ?_; (with_reducible refine (kA.calls kj3 t861 (wrap64 (t862 + 1)) t864 _ A12.out).mono ?_); rintro e w' ⟨rfl, ⟨nd, rfl⟩⟩; refine ⟨_, rfl, ?_⟩) | ((with_reducible refine bC (f := 121) rfl ?_); refine jH (some 51) rfl rfl Tryz.func121 (by kernel_rfl) rfl #[.int .i64 t861, .int .i64 (wrap64 (t862 + 1)), .int .i64 t864] rfl (by (try simp only [List.map_toArray, List.map_cons, List.map_nil]); first | done | rfl | (simp only [List.length_drop, List.length_take]; rfl)) ?_; (with_reducible refine (bF.calls kj3 t861 (wrap64 (t862 + 1)) t864 t865 t866 _ A13.out).mono ?_); rintro e w' ⟨rfl, ⟨nd, rfl⟩⟩; refine ⟨_, rfl, ?_⟩))
       go_ret2
       exact ⟨by first | rfl | (simp; done) | (simp [*]; done), by repeat (first | exact Drawn0.refl _ | apply Drawn0.step)⟩
     · rw [if_neg c11] at H
       have c11b0 : decide (t863 < t859) = false := decide_eq_false c11
       clear c11
       replace H := Option.bind_eq_some_iff.mp H
       obtain ⟨⟨t867, t868⟩, A140, H⟩ := H
       replace H : (some (t867, t868)) = some (r1, r2) := H
       have A14 := Aside0.mk A140
       clear A140
       simp only [Option.some.injEq, Prod.mk.injEq] at H
       obtain ⟨rfl, rfl⟩ := H
       go_wp2_with (first | ((with_reducible refine bC (f := 140) rfl ?_); refine jH (some 36) rfl rfl Tryz.func140 (by kernel_rfl) rfl #[.int .i64 (wrap64 ((wrap64 ((wrap64 ((wrap64 (12 * t857)) + t858)) - 1)) + a1)), .int .i64 12] rfl (by (try simp only [List.map_toArray, List.map_cons, List.map_nil]); first | done | rfl | (simp only [List.length_drop, List.length_take]; rfl)) ?_; (with_reducible refine (jG.calls (wrap64 ((wrap64 ((wrap64 ((wrap64 (12 * t857)) + t858)) - 1)) + a1)) 12 t861 _ A8.out).mono ?_); rintro e w' ⟨rfl, ⟨nd, rfl⟩⟩; refine ⟨_, rfl, ?_⟩) | ((with_reducible refine bC (f := 141) rfl ?_); refine jH (some 38) rfl rfl Tryz.func141 (by kernel_rfl) rfl #[.int .i64 (wrap64 ((wrap64 ((wrap64 ((wrap64 (12 * t857)) + t858)) - 1)) + a1)), .int .i64 12] rfl (by (try simp only [List.map_toArray, List.map_cons, List.map_nil]); first | done | rfl | (simp only [List.length_drop, List.length_take]; rfl)) ?_; (with_reducible refine (kU.calls (wrap64 ((wrap64 ((wrap64 ((wrap64 (12 * t857)) + t858)) - 1)) + a1)) 12 t862 _ A9.out).mono ?_); rintro e w' ⟨rfl, ⟨nd, rfl⟩⟩; refine ⟨_, rfl, ?_⟩) | ((with_reducible refine bC (f := 143) rfl ?_); refine jH (some 43) rfl rfl Tryz.func143 (by kernel_rfl) rfl #[.int .i64 t861, .int .i64 (wrap64 (t862 + 1))] rfl (by (try simp only [List.map_toArray, List.map_cons, List.map_nil]); first | done | rfl | (simp only [List.length_drop, List.length_take]; rfl)) ?_; (with_reducible refine (kA.calls kj3 t861 (wrap64 (t862 + 1)) t863 _ A10.out).mono ?_); rintro e w' ⟨rfl, ⟨nd, rfl⟩⟩; refine ⟨_, rfl, ?_⟩) | ((with_reducible refine bC (f := 121) rfl ?_); refine jH (some 51) rfl rfl Tryz.func121 (by kernel_rfl) rfl #[.int .i64 t861, .int .i64 (wrap64 (t862 + 1)), .int .i64 t859] rfl (by (try simp only [List.map_toArray, List.map_cons, List.map_nil]); first | done | rfl | (simp only [List.length_drop, List.length_take]; rfl)) ?_; (with_reducible refine (bF.calls kj3 t861 (wrap64 (t862 + 1)) t859 t867 t868 _ A14.out).mono ?_); rintro e w' ⟨rfl, ⟨nd, rfl⟩⟩; refine ⟨_, rfl, ?_⟩))
       go_ret2
       exact ⟨by first | rfl | (simp; done) | (simp [*]; done), by repeat (first | exact Drawn0.refl _ | apply Drawn0.step)⟩
noncomputable def kJ.con (k : Nat) : Con
 | [.int .i64 a0, .int .i64 a1] => some ((kJ.f k a0 a1).isSome, .tup [.int .i64 (gd (kJ.f k a0 a1)).1, .int .i64 (gd (kJ.f k a0 a1)).2])
 | _ => none
set_option maxRecDepth 100000 in
theorem kJ.cok (k : Nat) : COk Tryz.prog 126 (kJ.con k) := by
 intro args p v hc hp w A hA
 unfold kJ.con at hc
 split at hc
 · rename_i a0 a1
   simp only [Option.some.injEq, Prod.mk.injEq] at hc
   obtain ⟨rfl, rfl⟩ := hc
   rcases hf : kJ.f k a0 a1 with _ | ⟨r1, r2⟩
   · rw [hf] at hp; cases hp
   obtain rfl : A = [.int .i64 a0, .int .i64 a1] := by simpa [kG, kL, kM, kN, kZ, kV, jP] using hA
   exact kK (fn := Tryz.f126) Tryz.func126 (by kernel_rfl) (by kernel_rfl) (kJ.calls _ _ _ _ _ w hf) (fun _ => by simp [kH, kG, kL, kM, kN, kZ, kV, bK]) (fun _ h => h.below)
 · cases hc
def kQ.f (k : Nat) (a0_0 : Int) (a0_1 : Int) (a1 : Int) : Option (Int × Int × Int) := (kI.f k a0_0 a0_1).bind fun t871 => (if t871 = true then (if a0_0 = 0 then ((kJ.f k a0_1 a1).bind fun bt872 => ((kS.f k bt872.1 bt872.2).bind fun bt874 => (some (bt874.1, bt874.2.1, bt874.2.2)))) else (some (a0_0, a0_1, 0))) else (some (0, 0, 1)))
theorem kQ.mono : ∀ a0 a1 a2 k, LeO (kQ.f k a0 a1 a2) (kQ.f (k + 1) a0 a1 a2) := by
 intro a0 a1 a2 k
 unfold kQ.f
 repeat' first
  | (with_reducible exact kJ.mono _ _ _)
  | (with_reducible exact kI.mono _ _ _)
  | (with_reducible exact kS.mono _ _ _)
  | (with_reducible exact LeO.refl _)
  | (with_reducible exact LeO.none _)
  | (with_reducible refine LeO.ite ?_ ?_)
  | (with_reducible refine LeO.bind ?_ (fun _ => ?_))
  | exact kJ.mono _ _ _
  | exact kI.mono _ _ _
  | exact kS.mono _ _ _
  | exact LeO.none _
  | refine LeO.ite ?_ ?_
  | refine LeO.bind ?_ (fun _ => ?_)
set_option maxRecDepth 100000 in
theorem kQ.vc (k : Nat) (a0_0 : Int) (a0_1 : Int) (a1 : Int) (K : AV → Prop) : afv PA Tryz.prog (tab [(106, kI.con k), (125, kS.con k), (126, kJ.con k)]) noLoops 2 88 [.agg [.int .i64 a0_0, .int .i64 a0_1], .int .i64 a1] K = (brc (Option.isSome (kI.f k a0_0 a0_1)) (∀ m0 : Bool, m0 = gd (kI.f k a0_0 a0_1) → brc (!m0) (K (AV.tup [.agg [.int .i64 0, .int .i64 0], .int .i64 1])) (brc (a0_0 != 0) (K (AV.tup [.agg [.int .i64 a0_0, .int .i64 a0_1], .int .i64 0])) (brc (Option.isSome (kJ.f k a0_1 a1)) (∀ m1 : Int, m1 = Prod.fst (gd (kJ.f k a0_1 a1)) → ∀ m2 : Int, m2 = Prod.snd (gd (kJ.f k a0_1 a1)) → brc (Option.isSome (kS.f k m1 m2)) (∀ m3 : Int, m3 = Prod.fst (gd (kS.f k m1 m2)) → ∀ m4 : Int, m4 = Prod.fst (Prod.snd (gd (kS.f k m1 m2))) → ∀ m5 : Int, m5 = Prod.snd (Prod.snd (gd (kS.f k m1 m2))) → K (AV.tup [.agg [.int .i64 m3, .int .i64 m4], .int .i64 m5])) False) False))) False) := by kernel_rfl
set_option maxHeartbeats 1000000 in
set_option maxRecDepth 100000 in
theorem kQ.calls (k : Nat) (a0_0 : Int) (a0_1 : Int) (a1 : Int) (r1 : Int) (r2 : Int) (r3 : Int) (w : World) (h : kQ.f k a0_0 a0_1 a1 = some (r1, r2, r3)) :
 Calls Tryz.prog 88 #[.agg #[.int .i64 a0_0, .int .i64 a0_1], .int .i64 a1] w fun e w' => e = .returned (.tuple #[.agg #[.int .i64 r1, .int .i64 r2], .int .i64 r3]) ∧ Below w.heap.size w w' := by
 refine bW (A := [.agg #[.int .i64 a0_0, .int .i64 a0_1], .int .i64 a1]) (v := .tup [.agg [.int .i64 r1, .int .i64 r2], .int .i64 r3]) (kD (kI.cok k) (kD (kS.cok k) (kD (kJ.cok k) (bE)))) ((kQ.vc k a0_0 a0_1 a1 _).mpr ?_) (by simp [kG, kL, kM, kN, kZ, kV, jP]) (fun ρ V' hV => by simpa [kG, kL, kM, kN, kZ, kV, bK] using hV)
 unfold kQ.f at h
 (try simp only [bne, Option.bind_eq_some_iff, bN] at h)
 (try simp only [bne, jS, wrap_i64])
 first
  | grind (splits := 60) [kH]
  | ((repeat' (first | (have or_ : Or _ _ := h; clear or_; rcases h with h | h) | (have or_ : Exists _ := h; clear or_; obtain ⟨_, h⟩ := h) | (have or_ : And _ _ := h; clear or_; obtain ⟨hq_, h⟩ := h))) <;> (try simp only [Option.some.injEq, Prod.mk.injEq, reduceCtorEq] at h) <;> (try subst_vars) <;> first | (simp_all [kH] <;> (try omega) <;> done) | grind (splits := 60) [kH])
  | (intros; subst_vars; simp_all [kH]; done)
noncomputable def kQ.con (k : Nat) : Con
 | [.agg [.int .i64 a0_0, .int .i64 a0_1], .int .i64 a1] => some ((kQ.f k a0_0 a0_1 a1).isSome, .tup [.agg [.int .i64 (gd (kQ.f k a0_0 a0_1 a1)).1, .int .i64 (gd (kQ.f k a0_0 a0_1 a1)).2.1], .int .i64 (gd (kQ.f k a0_0 a0_1 a1)).2.2])
 | _ => none
set_option maxRecDepth 100000 in
theorem kQ.cok (k : Nat) : COk Tryz.prog 88 (kQ.con k) := by
 intro args p v hc hp w A hA
 unfold kQ.con at hc
 split at hc
 · rename_i a0_0 a0_1 a1
   simp only [Option.some.injEq, Prod.mk.injEq] at hc
   obtain ⟨rfl, rfl⟩ := hc
   rcases hf : kQ.f k a0_0 a0_1 a1 with _ | ⟨r1, r2, r3⟩
   · rw [hf] at hp; cases hp
   obtain rfl : A = [.agg #[.int .i64 a0_0, .int .i64 a0_1], .int .i64 a1] := by simpa [kG, kL, kM, kN, kZ, kV, jP] using hA
   exact kK (fn := Tryz.f88) Tryz.func88 (by kernel_rfl) (by kernel_rfl) (kQ.calls _ _ _ _ _ _ _ w hf) (fun _ => by simp [kH, kG, kL, kM, kN, kZ, kV, bK]) (fun _ h => h)
 · cases hc
theorem kQ.up {k : Nat} {a0_0 : Int} {a0_1 : Int} {a1 : Int} {r : Int × Int × Int} (h : kQ.f k a0_0 a0_1 a1 = some r) : kQ.f (k + 1) a0_0 a0_1 a1 = some r := kQ.mono a0_0 a0_1 a1 k _ h
theorem kQ.le {a0_0 : Int} {a0_1 : Int} {a1 : Int} {r : Int × Int × Int} {k n : Nat} (h : kQ.f k a0_0 a0_1 a1 = some r) (hk : k ≤ n) : kQ.f n a0_0 a0_1 a1 = some r := by
 induction hk with
 | refl => exact h
 | step _ ih => exact kQ.up ih
end Go.Proofs.YtimgphlfaninnaaGreat.P
namespace Go.Proofs.YtimgphlfaninnaaGreat.Civ
set_option linter.unusedVariables false
set_option linter.unusedSimpArgs false
open Go.RowKit Go.Proofs.YtimgphlfaninnaaGreatW.PrintWords Go.Proofs.YtimgphlfaninnaaGreatW.PrintLast Go.Proofs.YtimgphlfaninnaaGreatW.PrintMore Go.Proofs.YtimgphlfaninnaaGreat.P
theorem rmod_eq (a b : Int) (hb : 0 < b) (hb2 : b ≤ 4611686018427387904) : kU.f a b = some (a % b) := by
 have c := cut_floor a (b := b) (by omega)
 have h1 := Int.emod_nonneg a (b := b) (by omega)
 have h2 := Int.emod_lt_of_pos a (b := b) (by omega)
 unfold kU.f
 rw [if_neg (by omega)]
 by_cases h : Int.tmod a b < 0
 · obtain ⟨c1, c2, _⟩ := c.1 h
   rw [if_pos h, c2, w64 (by omega) (by omega)]
   congr 1; omega
 · obtain ⟨c1, c2⟩ := c.2 h
   rw [if_neg h, c2]
theorem rdiv_eq (a b : Int) (ha : I64 a) (hb : 1 < b) (hb2 : b ≤ 4611686018427387904) : jG.f a b = some (a / b) := by
 have e := floor_eq a b ha hb hb2
 unfold bU.f at e
 unfold jG.f
 rw [if_neg (by omega)] at e ⊢
 by_cases h : Int.tmod a b < 0
 · rw [if_pos h] at e ⊢; injection e with e; injection e with e1 _; rw [e1]
 · rw [if_neg h] at e ⊢; injection e with e; injection e with e1 _; rw [e1]
theorem rleap_eq (y : Int) : bX.f y = some (decide (lp y = 1)) := by
 unfold bX.f
 rw [rmod_eq _ _ (by omega) (by omega), rmod_eq _ _ (by omega) (by omega), rmod_eq _ _ (by omega) (by omega)]
 simp only [Option.bind_some]
 have e : (y % 400 == 0) = decide (y % 400 = 0) := rfl
 rw [e]
 unfold lp
 by_cases h1 : y % 4 = 0
 · rw [if_pos h1]
   by_cases h2 : y % 100 = 0
   · rw [if_pos h2]
     by_cases h3 : y % 400 = 0 <;> simp [h1, h2, h3]
   · rw [if_neg h2]; simp [h1, h2]
 · rw [if_neg h1]; simp [h1]
theorem rlen_eq (k : Nat) (y m : Int) : kA.f (k + 2) y m = some (mlen y m) := by
 have hl := lp_01 y
 by_cases h : m < 1 ∨ 12 < m
 · rw [mlen_out y m h]
   unfold kA.f
   rw [if_neg (by omega), if_neg (by omega), if_neg (by omega), if_neg (by omega), if_neg (by omega), if_neg (by omega), beq_eq_false_iff_ne.2 (by omega : m ≠ 12)]
   simp only [kA.j0]
   rw [if_neg (by simp), if_neg (by omega), if_neg (by omega), if_neg (by omega), beq_eq_false_iff_ne.2 (by omega : m ≠ 11)]
   simp only [kA.j1]
   rw [if_neg (by simp), if_neg (by omega)]
 · rcases twelve (m := m) (by omega) (by omega) with e | e | e | e | e | e | e | e | e | e | e | e <;> subst e <;> simp [kA.f, kA.j0, kA.j1, mlen, rleap_eq]
   by_cases h3 : lp y = 1
   · rw [if_pos h3, h3]; rfl
   · rw [if_neg h3, show lp y = 0 by omega]; rfl
theorem rlen_ev (y m : Int) : Ev (fun k => kA.f k y m) (mlen y m) := Ev.at2 fun k => rlen_eq k y m
theorem rright_eq (k : Nat) (y m d : Int) : bY.f (k + 2) y m d = some (decide (DateOk y m d)) := by
 unfold bY.f
 rw [rlen_eq]
 by_cases h1 : y ≥ -4718
 · rw [if_pos h1]
   by_cases h2 : y ≤ 294282
   · rw [if_pos h2]
     by_cases h4 : m ≥ 1
     · rw [if_pos h4]
       by_cases h5 : m ≤ 12
       · rw [if_pos h5]
         by_cases h3 : d ≥ 1
         · rw [if_pos h3]
           simp only [Option.bind_some]
           congr 1
           apply decide_eq_decide.2
           unfold DateOk
           omega
         · rw [if_neg h3, decide_eq_false (by unfold DateOk; omega)]
       · rw [if_neg h5, decide_eq_false (by unfold DateOk; omega)]
     · rw [if_neg h4, decide_eq_false (by unfold DateOk; omega)]
   · rw [if_neg h2, decide_eq_false (by unfold DateOk; omega)]
 · rw [if_neg h1, decide_eq_false (by unfold DateOk; omega)]
theorem rright_ev (y m d : Int) : Ev (fun k => bY.f k y m d) (decide (DateOk y m d)) := Ev.at2 fun k => rright_eq k y m d
theorem rstart_loop (y : Int) (hy : -100000000 ≤ y ∧ y ≤ 100000000) (d : Nat) : ∀ i n : Int, 0 ≤ i → i ≤ (y - 2000) % 400 → (y - 2000) % 400 - i = d → n = dby (2000 + i) + 146097 * ((y - 2000) / 400) →
 Ev (fun k => kO.l0 k y n i) (dby y) := by
 induction d with
 | zero =>
  intro i n h0 h1 hd hn
  refine Ev.at1 fun k => ?_
  simp only [kO.l0]
  rw [w64 (by omega) (by omega), rmod_eq _ _ (by omega) (by omega)]
  simp only [Option.bind_some]
  rw [if_neg (by omega)]
  congr 1
  rw [hn, ← dby_era, show 2000 + i + 400 * ((y - 2000) / 400) = y by omega]
 | succ d ih =>
  intro i n h0 h1 hd hn
  have hs := dby_succ (2000 + i)
  have hb : -1000000 ≤ dby (2000 + i) ∧ dby (2000 + i) ≤ 1000000 := by
   have a := dby_far 2000 (2000 + i) (by omega)
   have b := dby_near 2000 (2000 + i) (by omega)
   have c : dby 2000 = 0 := by decide
   omega
  have hl := lp_01 (2000 + i)
  refine Ev.step (f := fun k => kO.l0 k y (n + 365 + lp (2000 + i)) (i + 1)) (fun k => ?_) (ih (i + 1) _ (by omega) (by omega) (by omega) ?_)
  · simp only [kO.l0]
    rw [w64 (x := y - 2000) (by omega) (by omega), rmod_eq _ _ (by omega) (by omega)]
    simp only [Option.bind_some]
    rw [if_pos (by omega), w64 (x := 2000 + i) (by omega) (by omega), rleap_eq]
    simp only [Option.bind_some, decide_eq_true_eq]
    rw [w64 (x := i + 1) (by omega) (by omega), w64 (x := n + 365) (by omega) (by omega)]
    by_cases hp : lp (2000 + i) = 1
    · rw [if_pos hp, w64 (by omega) (by omega), hp]
    · rw [if_neg hp, show lp (2000 + i) = 0 by omega, Int.add_zero]
  · rw [show 2000 + (i + 1) = 2000 + i + 1 by omega, hs]; omega
theorem rstart_ev (y : Int) (hy : -100000000 ≤ y ∧ y ≤ 100000000) : Ev (fun k => kO.f k y) (dby y) := by
 unfold kO.f
 rw [w64 (by omega) (by omega), rdiv_eq _ _ (by unfold I64; omega) (by omega) (by omega)]
 simp only [Option.bind_some]
 refine rstart_loop y hy ((y - 2000) % 400).toNat 0 _ (by omega) (by omega) (by omega) ?_
 rw [w64 (by omega) (by omega)]
 have c : dby (2000 + 0) = 0 := by decide
 omega
theorem rday_loop (y m : Int) (hm : m ≤ 12) (d : Nat) : ∀ i n : Int, 1 ≤ i → i ≤ m → m - i = d → -1000000000000 ≤ n ∧ n ≤ 1000000000000 + 31 * i →
 Ev (fun k => kP.l0 k y m n i) (n + cum y m - cum y i) := by
 induction d with
 | zero =>
  intro i n h0 h1 hd hn
  refine Ev.at1 fun k => ?_
  simp only [kP.l0]
  rw [if_neg (by omega)]
  congr 1
  have : i = m := by omega
  subst this; omega
 | succ d ih =>
  intro i n h0 h1 hd hn
  have hc := cum_succ y i h0 (by omega)
  have hl := mlen_bd y i h0 (by omega)
  refine Ev.step (f := fun k => (kA.f k y i).bind fun t => kP.l0 k y m (wrap64 (n + t)) (wrap64 (i + 1))) (fun k => ?_) (Ev.bind (rlen_ev y i) ?_)
  · simp only [kP.l0]
    rw [if_pos (by omega)]
  · rw [w64 (x := n + mlen y i) (by omega) (by omega), w64 (x := i + 1) (by omega) (by omega)]
    exact Ev.cast (ih (i + 1) _ (by omega) (by omega) (by omega) (by omega)) (by omega)
theorem dby_bd (y : Int) (hy : -100000000 ≤ y ∧ y ≤ 100000000) : -40000000000 ≤ dby y ∧ dby y ≤ 40000000000 := by
 have c : dby 2000 = 0 := by decide
 rcases Int.le_total y 2000 with h | h
 · have a := dby_far y 2000 h
   have b := dby_near y 2000 h
   omega
 · have a := dby_far 2000 y h
   have b := dby_near 2000 y h
   omega
theorem rday_ev (y m d : Int) (hy : -100000000 ≤ y ∧ y ≤ 100000000) (h1 : 1 ≤ m) (h2 : m ≤ 12) (hd : -1000 ≤ d ∧ d ≤ 1000) : Ev (fun k => kP.f k y m d) (dnum y m d) := by
 have hb := dby_bd y hy
 unfold kP.f
 refine Ev.bind (rstart_ev y hy) ?_
 rw [w64 (x := dby y + d) (by omega) (by omega), w64 (by omega) (by omega)]
 refine Ev.cast (rday_loop y m h2 (m - 1).toNat 1 _ (by omega) (by omega) (by omega) (by omega)) ?_
 unfold dnum
 rw [cum_one]; omega
theorem rfirst_ev : Ev (fun k => bZ.f k) (-2453698) := by
 unfold bZ.f
 exact Ev.bind (rday_ev _ _ _ (by omega) (by omega) (by omega) (by omega)) (Ev.now _)
theorem rlast_ev : Ev (fun k => jK.f k) 106754173 := by
 unfold jK.f
 exact Ev.bind (rday_ev _ _ _ (by omega) (by omega) (by omega) (by omega)) (Ev.now _)
theorem rcan_ev (n : Int) : Ev (fun k => bT.f k n) (decide (CanDay n)) := by
 unfold bT.f
 refine Ev.bind rfirst_ev ?_
 by_cases h : n ≥ -2453698
 · simp only [if_pos h]
   refine Ev.bind rlast_ev ?_
   have e : decide (n ≤ 106754173) = decide (CanDay n) := decide_eq_decide.2 (by unfold CanDay; omega)
   rw [e]; exact Ev.now _
 · simp only [if_neg h]
   rw [decide_eq_false (by unfold CanDay; omega : ¬ CanDay n)]; exact Ev.now _
theorem rdays_ev (y m d : Int) : Ev (fun k => bF.f k y m d) (if DateOk y m d then (dnum y m d, 0) else (0, 10)) := by
 unfold bF.f
 refine Ev.bind (rright_ev y m d) ?_
 simp only [decide_eq_true_eq]
 by_cases h : DateOk y m d
 · simp only [if_pos h]
   have hl := mlen_up y m
   unfold DateOk at h
   exact Ev.bind (rday_ev y m d (by omega) (by omega) (by omega) (by omega)) (Ev.now _)
 · simp only [if_neg h]; exact Ev.now _
theorem rdate_months (y : Int) (left : Int) (m d : Int) (h12 : m ≤ 12) (hd0 : 1 ≤ d) (hd1 : d ≤ mlen y m) (j : Nat) : ∀ i l : Int, 1 ≤ i → i ≤ m → m - i = j → l = cum y m + d - 1 - cum y i →
 Ev (fun k => kC.l1 k y l i) (y, m, d, 0) := by
 induction j with
 | zero =>
  intro i l h0 h1 hj hl
  have e : i = m := by omega
  subst e
  refine Ev.step (f := fun k => (kA.f k y i).bind fun t => if l ≥ t then (kA.f k y i).bind fun t' => kC.l1 k y (wrap64 (l - t')) (wrap64 (i + 1)) else some (y, i, wrap64 (l + 1), 0)) (fun k => by simp only [kC.l1]) (Ev.bind (rlen_ev y i) ?_)
  have hb := mlen_bd y i h0 h12
  simp only [if_neg (show ¬ l ≥ mlen y i by omega)]
  rw [w64 (by omega) (by omega), show l + 1 = d by omega]
  exact Ev.now _
 | succ j ih =>
  intro i l h0 h1 hj hl
  have hb := mlen_bd y i h0 (by omega)
  have hb2 := mlen_bd y m (by omega) h12
  have hcm := cum_bd y m (by omega) h12
  have hci := cum_bd y i h0 (by omega)
  have hlp := lp_01 y
  have hst := cum_step y i m h0 (by omega) h12
  have hs := cum_succ y i h0 (by omega)
  refine Ev.step (f := fun k => (kA.f k y i).bind fun t => if l ≥ t then (kA.f k y i).bind fun t' => kC.l1 k y (wrap64 (l - t')) (wrap64 (i + 1)) else some (y, i, wrap64 (l + 1), 0)) (fun k => by simp only [kC.l1]) (Ev.bind (rlen_ev y i) ?_)
  simp only [if_pos (show l ≥ mlen y i by omega)]
  refine Ev.bind (rlen_ev y i) ?_
  rw [w64 (x := l - mlen y i) (by omega) (by omega), w64 (x := i + 1) (by omega) (by omega)]
  exact ih (i + 1) _ (by omega) (by omega) (by omega) (by omega)
theorem rdate_years {n y m d : Int} (h : IsDate n y m d) (hy : -100000000 ≤ y ∧ y ≤ 100000000) (j : Nat) : ∀ i l : Int, i ≤ y → -200000000 ≤ i → y - i = j → dby i + l = n → l ≤ 10000000 →
 Ev (fun k => kC.l0 k i l) (y, m, d, 0) := by
 have hh := h.year
 have hs := dby_succ y
 have hl := lp_01 y
 have hm := h.m1
 have hm2 := h.m12
 have hnum := h.num
 unfold dnum at hnum
 have hcm := cum_bd y m hm hm2
 induction j with
 | zero =>
  intro i l h0 h00 hj hn hle
  have e : i = y := by omega
  subst e
  refine Ev.step (f := fun k => kC.j1 k i l) (fun k => ?_) (Ev.step (f := fun k => kC.l1 k i l 1) (fun k => by simp only [kC.j1]) (rdate_months i l m d hm2 h.d1 h.dl (m - 1).toNat 1 l (by omega) hm (by omega) (by rw [cum_one]; omega)))
  simp only [kC.l0]
  rw [rleap_eq]
  simp only [Option.bind_some, decide_eq_true_eq]
  by_cases hp : lp i = 1
  · rw [if_pos hp, if_pos (by omega)]
  · rw [if_neg hp, if_pos (by omega)]
 | succ j ih =>
  intro i l h0 h00 hj hn hle
  have hsi := dby_succ i
  have hli := lp_01 i
  have hf := dby_far (i + 1) y (by omega)
  refine Ev.step (f := fun k => kC.l0 k (i + 1) (l - 365 - lp i)) (fun k => ?_) (ih (i + 1) _ (by omega) (by omega) (by omega) (by omega) (by omega))
  simp only [kC.l0]
  rw [rleap_eq]
  simp only [Option.bind_some, decide_eq_true_eq]
  by_cases hp : lp i = 1
  · rw [if_pos hp, if_neg (by omega), w64 (x := i + 1) (by omega) (by omega), w64 (x := l - 366) (by omega) (by omega), show l - 366 = l - 365 - lp i by omega]
  · rw [if_neg hp, if_neg (by omega), w64 (x := i + 1) (by omega) (by omega), w64 (x := l - 365) (by omega) (by omega), show lp i = 0 by omega, Int.sub_zero]
theorem rdate_ev {n y m d : Int} (h : IsDate n y m d) (hc : CanDay n) : Ev (fun k => kC.f k n) (y, m, d, 0) := by
 have hy := (can_of_year h).1 hc
 have hyr := h.year
 unfold kC.f
 refine Ev.bind (rcan_ev n) ?_
 simp only [decide_eq_true_eq, if_pos hc]
 unfold CanDay at hc
 rw [rdiv_eq _ _ (by unfold I64; omega) (by omega) (by omega), rmod_eq _ _ (by omega) (by omega)]
 simp only [Option.bind_some]
 rw [w64 (x := n / 146097 * 400) (by omega) (by omega), w64 (by omega) (by omega)]
 have e : dby (2000 + n / 146097 * 400) = n / 146097 * 146097 := by
  have := dby_era 2000 (n / 146097)
  have c : dby 2000 = 0 := by decide
  rw [show 2000 + n / 146097 * 400 = 2000 + 400 * (n / 146097) by omega, this, c]; omega
 have hle : 2000 + n / 146097 * 400 ≤ y := by
  rcases Int.lt_or_le y (2000 + n / 146097 * 400) with g | g
  · have := dby_far (y + 1) (2000 + n / 146097 * 400) (by omega)
    omega
  · exact g
 exact rdate_years h (by omega) (y - (2000 + n / 146097 * 400)).toNat _ _ hle (by omega) (by omega) (by rw [e]; omega) (by omega)
theorem rdate_no {n : Int} (hc : ¬ CanDay n) : Ev (fun k => kC.f k n) (0, 0, 0, 10) := by
 unfold kC.f
 refine Ev.bind (rcan_ev n) ?_
 simp only [decide_eq_true_eq, if_neg hc]
 exact Ev.now _
theorem rweekday_eq (n : Int) : computusref02_Weekday.f n = some (wday n) := by
 unfold computusref02_Weekday.f
 rw [rmod_eq _ _ (by omega) (by omega)]
 simp only [Option.bind_some]
 rw [w64 (by omega) (by omega), rmod_eq _ _ (by omega) (by omega)]
 simp only [Option.bind_some]
 congr 1
 unfold wday
 omega
theorem rshift_ev {n y m d q : Int} (h : IsDate n y m d) (hc : CanDay n) (hk : MonthsOk q) :
 Ev (fun k => kJ.f k n q) (if DateOk (shY y m q) (shM y m q) (shD y m d q) then (dnum (shY y m q) (shM y m q) (shD y m d q), 0) else (0, 10)) := by
 have hk' := hk
 unfold MonthsOk at hk'
 have hy := (can_of_year h).1 hc
 have h1 := h.m1
 have h2 := h.m12
 unfold kJ.f
 refine Ev.bind (rdate_ev h hc) ?_
 simp only [if_true]
 simp only [if_neg (show ¬ q > 3600000 by omega), decide_eq_false (show ¬ q < -3600000 by omega)]
 refine Ev.step (f := fun k => (kA.f k (shY y m q) (shM y m q)).bind fun t => if d > t then (kA.f k (shY y m q) (shM y m q)).bind fun t' => (bF.f k (shY y m q) (shM y m q) t').bind fun b => some (b.1, b.2) else (bF.f k (shY y m q) (shM y m q) d).bind fun b => some (b.1, b.2)) (fun k => ?_) ?_
 · simp only [kJ.j0]
   rw [if_neg (by simp)]
   rw [w64 (x := 12 * y) (by omega) (by omega), w64 (x := 12 * y + m) (by omega) (by omega), w64 (x := 12 * y + m - 1) (by omega) (by omega), w64 (x := 12 * y + m - 1 + q) (by omega) (by omega), rdiv_eq _ _ (by unfold I64; omega) (by omega) (by omega), rmod_eq _ _ (by omega) (by omega)]
   simp only [Option.bind_some]
   rw [w64 (x := (12 * y + m - 1 + q) % 12 + 1) (by omega) (by omega)]
   rfl
 · refine Ev.bind (rlen_ev _ _) ?_
   unfold shD
   by_cases hd : mlen (shY y m q) (shM y m q) < d
   · simp only [if_pos (show d > mlen (shY y m q) (shM y m q) from hd), if_pos hd]
     exact Ev.bind (rlen_ev _ _) (Ev.bind (rdays_ev _ _ _) (Ev.now _))
   · simp only [if_neg (show ¬ d > mlen (shY y m q) (shM y m q) from hd), if_neg hd]
     exact Ev.bind (rdays_ev _ _ _) (Ev.now _)
theorem rshift_no {n q : Int} (h : ¬ CanDay n ∨ ¬ MonthsOk q) : Ev (fun k => kJ.f k n q) (0, 10) := by
 by_cases hc : CanDay n
 · have hk := h.resolve_left (fun f => f hc)
   unfold MonthsOk at hk
   obtain ⟨y1, m1, d1, hd⟩ := date_of n
   unfold kJ.f
   refine Ev.bind (rdate_ev hd hc) ?_
   simp only [if_true]
   by_cases h1 : q > 3600000
   · simp only [if_pos h1]
     exact Ev.at1 fun k => by simp only [kJ.j0]; rfl
   · simp only [if_neg h1, decide_eq_true (show q < -3600000 by omega)]
     exact Ev.at1 fun k => by simp only [kJ.j0]; rfl
 · unfold kJ.f
   refine Ev.bind (rdate_no hc) ?_
   exact Ev.at1 fun k => by simp only [kJ.j0]; rfl
end Go.Proofs.YtimgphlfaninnaaGreat.Civ
namespace Go.Proofs.YtimgphlfaninnaaGreat.Ft
set_option linter.unusedVariables false
set_option linter.unusedSimpArgs false
open Go Go.Proofs.YtimgphlfaninnaaGreat.Civ
structure Hf where
 m : Int
 k : Int
 w : Int
 n : Int
 s : Int
 c : Int
 v : Int
 ab : ByteArray
structure Ft where
 z : Bool
 fr : Int
 off : Int
 a : Hf
 b : Hf
def OnOk (k w n : Int) : Prop := (k = 0 ∧ w = 0 ∧ 1 ≤ n ∧ n ≤ 31) ∨ (k = 1 ∧ n = 0 ∧ 0 ≤ w ∧ w ≤ 6) ∨ ((k = 2 ∨ k = 3) ∧ 0 ≤ w ∧ w ≤ 6 ∧ 1 ≤ n ∧ n ≤ 31)
instance (k w n : Int) : Decidable (OnOk k w n) := inferInstanceAs (Decidable (_ ∨ _))
def AtOk (s c : Int) : Prop := 0 ≤ s ∧ s ≤ 86400 ∧ (c = 119 ∨ c = 115 ∨ c = 117)
instance (s c : Int) : Decidable (AtOk s c) := inferInstanceAs (Decidable (_ ∧ _))
def HfOk (h : Hf) : Prop := 1 ≤ h.m ∧ h.m ≤ 12 ∧ OnOk h.k h.w h.n ∧ AtOk h.s h.c ∧ 0 ≤ h.v ∧ h.v ≤ 7200
instance (h : Hf) : Decidable (HfOk h) := inferInstanceAs (Decidable (_ ∧ _))
def FtOk (F : Ft) : Prop := F.z = true ∧ HfOk F.a ∧ HfOk F.b ∧ -50400 ≤ F.off ∧ F.off ≤ 50400 ∧ (2 ≤ F.a.m - F.b.m ∨ 2 ≤ F.b.m - F.a.m) ∧ F.a.m - F.b.m ≤ 10 ∧ F.b.m - F.a.m ≤ 10
instance (F : Ft) : Decidable (FtOk F) := inferInstanceAs (Decidable (_ ∧ _))
def toF (n wd st : Int) : Int := if st = 1 then n + (wd - wday n) % 7 else n - (wday n - wd) % 7
def dayOn (y m k w n : Int) : Int :=
 if k = 0 then dnum y m 1 + n - 1 else if k = 1 then toF (dnum y m 1 + mlen y m - 1) w (-1) else if k = 2 then toF (dnum y m 1 + n - 1) w 1 else toF (dnum y m 1 + n - 1) w (-1)
def inst (d s c off v : Int) : Int := (d + 10957) * 86400 + s - (if c = 117 then 0 else off) - (if c = 117 ∨ c = 115 then 0 else v)
structure Tr where
 t : Int
 off : Int
 dst : Bool
 ab : ByteArray
def tran (h o : Hf) (off y : Int) : Tr := ⟨inst (dayOn y h.m h.k h.w h.n) h.s h.c off o.v, off + h.v, decide (h.v ≠ 0), h.ab⟩
def fstH (F : Ft) : Hf := if F.a.m < F.b.m then F.a else F.b
def sndH (F : Ft) : Hf := if F.a.m < F.b.m then F.b else F.a
def tr (F : Ft) (b : Bool) (y : Int) : Tr := if b = true then tran (fstH F) (sndH F) F.off y else tran (sndH F) (fstH F) F.off y
def sI (F : Ft) (i : Int) : Tr := tr F (decide (i % 2 = 0)) (i / 2)
theorem sI_even (F : Ft) (y : Int) : sI F (2 * y) = tr F true y := by
 unfold sI; rw [show (2 * y) % 2 = 0 by omega, show 2 * y / 2 = y by omega]; rfl
theorem sI_odd (F : Ft) (y : Int) : sI F (2 * y + 1) = tr F false y := by
 unfold sI; rw [show (2 * y + 1) % 2 = 1 by omega, show (2 * y + 1) / 2 = y by omega]; rfl
theorem toF_bd (n wd st : Int) : n - 6 ≤ toF n wd st ∧ toF n wd st ≤ n + 6 ∧ (st = 1 → n ≤ toF n wd st) ∧ (st = -1 → toF n wd st ≤ n) := by
 unfold toF; split <;> omega
theorem dayOn_bd {y m k w n : Int} (h1 : 1 ≤ m) (h2 : m ≤ 12) (h : OnOk k w n) : dby y + cum y m - 6 ≤ dayOn y m k w n ∧ dayOn y m k w n ≤ dby y + cum y m + 36 := by
 have hl := mlen_bd y m h1 h2
 have a1 := toF_bd (dnum y m 1 + mlen y m - 1) w (-1)
 have a2 := toF_bd (dnum y m 1 + n - 1) w 1
 have a3 := toF_bd (dnum y m 1 + n - 1) w (-1)
 have hd : dnum y m 1 = dby y + cum y m := by unfold dnum; omega
 unfold dayOn
 rcases h with ⟨rfl, _, _, _⟩ | ⟨rfl, _, _, _⟩ | ⟨h, _, _, _, _⟩
 · rw [if_pos rfl]; omega
 · rw [if_neg (by omega), if_pos rfl]; omega
 · rcases h with rfl | rfl
   · rw [if_neg (by omega), if_neg (by omega), if_pos rfl]; omega
   · rw [if_neg (by omega), if_neg (by omega), if_neg (by omega)]; omega
theorem inst_bd {d s c off v : Int} (h : AtOk s c) (h1 : -50400 ≤ off) (h2 : off ≤ 50400) (h3 : 0 ≤ v) (h4 : v ≤ 7200) : (d + 10957) * 86400 - 57600 ≤ inst d s c off v ∧ inst d s c off v ≤ (d + 10957) * 86400 + 136800 := by
 obtain ⟨a, b, _⟩ := h
 unfold inst
 split <;> split <;> omega
theorem cum_gap {y a b : Int} (h1 : 1 ≤ a) (h2 : a + 2 ≤ b) (h3 : b ≤ 12) (h4 : b - a ≤ 10) : cum y a + 59 ≤ cum y b ∧ cum y b ≤ cum y a + 310 := by
 have hl := lp_01 y
 rcases twelve h1 (by omega) with e | e | e | e | e | e | e | e | e | e | e | e <;> subst e <;>
 rcases twelve (by omega) h3 with e | e | e | e | e | e | e | e | e | e | e | e <;> subst e <;> simp [cum] <;> omega
theorem cum_gap2 {y a b : Int} (h1 : 1 ≤ a) (h2 : a + 2 ≤ b) (h3 : b ≤ 12) (h4 : b - a ≤ 10) : dby y + cum y b + 59 ≤ dby (y + 1) + cum (y + 1) a ∧ dby (y + 1) + cum (y + 1) a ≤ dby y + cum y b + 310 := by
 have hs := dby_succ y
 have hl := lp_01 y
 have hk := lp_01 (y + 1)
 rcases twelve h1 (by omega) with e | e | e | e | e | e | e | e | e | e | e | e <;> subst e <;>
 rcases twelve (by omega) h3 with e | e | e | e | e | e | e | e | e | e | e | e <;> subst e <;> simp [cum] <;> omega
theorem cum_top {y m : Int} (h1 : 1 ≤ m) (h2 : m ≤ 12) : 0 ≤ cum y m ∧ cum y m ≤ 335 := by
 have hl := lp_01 y
 rcases twelve h1 h2 with e | e | e | e | e | e | e | e | e | e | e | e <;> subst e <;> simp [cum] <;> omega
theorem FtOk.fst {F : Ft} (h : FtOk F) : HfOk (fstH F) := by unfold fstH; split; exact h.2.1; exact h.2.2.1
theorem FtOk.snd {F : Ft} (h : FtOk F) : HfOk (sndH F) := by unfold sndH; split; exact h.2.2.1; exact h.2.1
theorem FtOk.months {F : Ft} (h : FtOk F) : (fstH F).m + 2 ≤ (sndH F).m ∧ (sndH F).m - (fstH F).m ≤ 10 := by
 obtain ⟨_, _, _, _, _, h1, h2, h3⟩ := h
 unfold fstH sndH
 split <;> omega
theorem tran_bd {h o : Hf} {off y : Int} (hh : HfOk h) (ho : HfOk o) (h1 : -50400 ≤ off) (h2 : off ≤ 50400) :
 (dby y + cum y h.m - 6 + 10957) * 86400 - 57600 ≤ (tran h o off y).t ∧ (tran h o off y).t ≤ (dby y + cum y h.m + 36 + 10957) * 86400 + 136800 := by
 have a := dayOn_bd (y := y) hh.1 hh.2.1 hh.2.2.1
 have b := inst_bd (d := dayOn y h.m h.k h.w h.n) hh.2.2.2.1 h1 h2 ho.2.2.2.2.1 ho.2.2.2.2.2
 unfold tran
 simp only
 omega
theorem sI_step {F : Ft} (h : FtOk F) (i : Int) : (sI F i).t < (sI F (i + 1)).t ∧ (sI F (i + 1)).t - (sI F i).t < 400 * 86400 := by
 obtain ⟨y, hy | hy⟩ : ∃ y, i = 2 * y ∨ i = 2 * y + 1 := ⟨i / 2, by omega⟩
 · subst hy
   rw [sI_even, sI_odd]
   show (tran (fstH F) (sndH F) F.off y).t < (tran (sndH F) (fstH F) F.off y).t ∧ _
   have a := tran_bd (y := y) h.fst h.snd h.2.2.2.1 h.2.2.2.2.1
   have b := tran_bd (y := y) h.snd h.fst h.2.2.2.1 h.2.2.2.2.1
   have c := cum_gap (y := y) h.fst.1 h.months.1 h.snd.2.1 h.months.2
   have e1 : (tr F true y).t = (tran (fstH F) (sndH F) F.off y).t := rfl
   have e2 : (tr F false y).t = (tran (sndH F) (fstH F) F.off y).t := rfl
   omega
 · subst hy
   rw [show 2 * y + 1 + 1 = 2 * (y + 1) by omega, sI_even, sI_odd]
   have a := tran_bd (y := y + 1) h.fst h.snd h.2.2.2.1 h.2.2.2.2.1
   have b := tran_bd (y := y) h.snd h.fst h.2.2.2.1 h.2.2.2.2.1
   have c := cum_gap2 (y := y) h.fst.1 h.months.1 h.snd.2.1 h.months.2
   have e1 : (tr F true (y + 1)).t = (tran (fstH F) (sndH F) F.off (y + 1)).t := rfl
   have e2 : (tr F false y).t = (tran (sndH F) (fstH F) F.off y).t := rfl
   omega
theorem sI_mono {F : Ft} (h : FtOk F) (i : Int) (n : Nat) : (sI F i).t ≤ (sI F (i + n)).t := by
 induction n with
 | zero => simp
 | succ n ih => have := (sI_step h (i + n)).1; rw [show i + ((n + 1 : Nat) : Int) = i + n + 1 by omega]; omega
theorem sI_le {F : Ft} (h : FtOk F) {i j : Int} (hij : i ≤ j) : (sI F i).t ≤ (sI F j).t := by
 have := sI_mono h i (j - i).toNat
 rwa [show i + ((j - i).toNat : Int) = j by omega] at this
theorem sI_lt {F : Ft} (h : FtOk F) {i j : Int} (hij : i < j) : (sI F i).t < (sI F j).t := by
 have a := (sI_step h i).1
 have b := sI_le h (i := i + 1) (j := j) (by omega)
 omega
noncomputable def yOf (n : Int) : Int := Classical.choose (year_of n)
theorem yOf_spec (n : Int) : dby (yOf n) ≤ n ∧ n < dby (yOf n + 1) := Classical.choose_spec (year_of n)
theorem yOf_date {n y m d : Int} (h : IsDate n y m d) : yOf n = y := by
 have a := yOf_spec n
 have b := h.year
 exact year_unique a.1 a.2 b.1 b.2
def dOf (u : Int) : Int := u / 86400 - 10957
theorem near_bd {F : Ft} (h : FtOk F) (u : Int) : (sI F (2 * yOf (dOf u) - 3)).t ≤ u ∧ u < (sI F (2 * yOf (dOf u) + 4)).t := by
 obtain ⟨h1, h2⟩ := yOf_spec (dOf u)
 generalize yOf (dOf u) = y at *
 rw [show 2 * y - 3 = 2 * (y - 2) + 1 by omega, show 2 * y + 4 = 2 * (y + 2) by omega, sI_even, sI_odd]
 have a := tran_bd (y := y - 2) h.snd h.fst h.2.2.2.1 h.2.2.2.2.1
 have b := tran_bd (y := y + 2) h.fst h.snd h.2.2.2.1 h.2.2.2.2.1
 have c := cum_top (y := y - 2) h.snd.1 h.snd.2.1
 have d := cum_top (y := y + 2) h.fst.1 h.fst.2.1
 have e1 : (tr F true (y + 2)).t = (tran (fstH F) (sndH F) F.off (y + 2)).t := rfl
 have e2 : (tr F false (y - 2)).t = (tran (sndH F) (fstH F) F.off (y - 2)).t := rfl
 have f1 := dby_far (y - 2) y (by omega)
 have f2 := dby_far (y + 1) (y + 2) (by omega)
 unfold dOf at h1 h2
 omega
theorem ix_ex {F : Ft} (h : FtOk F) (u : Int) : ∃ i, (sI F i).t ≤ u ∧ u < (sI F (i + 1)).t := by
 obtain ⟨h1, h2⟩ := near_bd h u
 generalize yOf (dOf u) = y at *
 have key : ∀ k : Nat, u < (sI F (2 * y - 3 + k)).t → ∃ i, (sI F i).t ≤ u ∧ u < (sI F (i + 1)).t := by
  intro k
  induction k with
  | zero => intro g; simp at g; omega
  | succ k ih =>
   intro g
   by_cases q : u < (sI F (2 * y - 3 + k)).t
   · exact ih q
   · exact ⟨2 * y - 3 + k, by omega, by rw [show 2 * y - 3 + (k : Int) + 1 = 2 * y - 3 + ((k + 1 : Nat) : Int) by omega]; exact g⟩
 exact key 7 (by rw [show 2 * y - 3 + ((7 : Nat) : Int) = 2 * y + 4 by omega]; exact h2)
open Classical in
noncomputable def ix (F : Ft) (u : Int) : Int := if h : FtOk F then Classical.choose (ix_ex h u) else 0
theorem ix_spec {F : Ft} (h : FtOk F) (u : Int) : (sI F (ix F u)).t ≤ u ∧ u < (sI F (ix F u + 1)).t := by
 unfold ix; rw [dif_pos h]; exact Classical.choose_spec (ix_ex h u)
theorem ix_is {F : Ft} (h : FtOk F) {u i : Int} (h1 : (sI F i).t ≤ u) (h2 : u < (sI F (i + 1)).t) : ix F u = i := by
 obtain ⟨a, b⟩ := ix_spec h u
 rcases Int.lt_trichotomy (ix F u) i with g | g | g
 · have := sI_le h (i := ix F u + 1) (j := i) (by omega); omega
 · exact g
 · have := sI_le h (i := i + 1) (j := ix F u) (by omega); omega
theorem ix_bd {F : Ft} (h : FtOk F) (u : Int) : 2 * yOf (dOf u) - 3 ≤ ix F u ∧ ix F u ≤ 2 * yOf (dOf u) + 3 := by
 obtain ⟨a, b⟩ := ix_spec h u
 obtain ⟨c, d⟩ := near_bd h u
 constructor
 · rcases Int.lt_or_le (ix F u) (2 * yOf (dOf u) - 3) with g | g
   · have := sI_le h (i := ix F u + 1) (j := 2 * yOf (dOf u) - 3) (by omega); omega
   · exact g
 · rcases Int.lt_or_le (2 * yOf (dOf u) + 3) (ix F u) with g | g
   · have := sI_le h (i := 2 * yOf (dOf u) + 4) (j := ix F u) (by omega); omega
   · exact g
noncomputable def yAt (u : Int) : Int := if dOf u < -2453698 then -4718 else if dOf u > 106754173 then 294282 else yOf (dOf u)
theorem yAt_in {u : Int} (h1 : -4718 < yAt u) (h2 : yAt u < 294282) : yAt u = yOf (dOf u) ∧ -2453698 ≤ dOf u ∧ dOf u ≤ 106754173 := by
 unfold yAt at *
 split at h1
 · omega
 · rename_i a
   split at h1
   · rename_i b; rw [if_neg a, if_pos b] at h2; omega
   · rename_i b; rw [if_neg a, if_neg b]; omega
def AskOk (F : Ft) (u : Int) : Prop := FtOk F ∧ -4714 ≤ yAt u ∧ yAt u ≤ 294278
noncomputable instance (F : Ft) (u : Int) : Decidable (AskOk F u) := inferInstanceAs (Decidable (_ ∧ _))
end Go.Proofs.YtimgphlfaninnaaGreat.Ft
namespace Go.Proofs.YtimgphlfaninnaaGreat.P
open Go Go.RowKit Go.Proofs.YtimgphlfaninnaaGreatW.PrintWords Go.Proofs.YtimgphlfaninnaaGreatW.PrintLast Go.Proofs.YtimgphlfaninnaaGreatW.PrintMore Go.Proofs.YtimgphlfaninnaaGreat.Civ Go.Proofs.YtimgphlfaninnaaGreat.Ft
set_option linter.unusedVariables false
set_option linter.unusedSimpArgs false
theorem mo_ex (n : Int) : ∃ m d, IsDate n (yOf n) m d := by
 obtain ⟨y, m, d, h⟩ := date_of n
 rw [yOf_date h]; exact ⟨m, d, h⟩
noncomputable def mOf (n : Int) : Int := if CanDay n then Classical.choose (mo_ex n) else 0
noncomputable def eOf (n : Int) : Int := if CanDay n then Classical.choose (Classical.choose_spec (mo_ex n)) else 0
theorem ymd_is (n : Int) (h : CanDay n) : IsDate n (yOf n) (mOf n) (eOf n) := by
 unfold mOf eOf
 rw [if_pos h, if_pos h]
 exact Classical.choose_spec (Classical.choose_spec (mo_ex n))
section
open A
def two (n : Int) : ByteArray := ⟨#[UInt8.ofNat (48 + n / 10).toNat, UInt8.ofNat (48 + n % 10).toNat]⟩
def avH (h : Hf) : List AV := [.int .i64 h.m, .int .i64 h.k, .int .i64 h.w, .int .i64 h.n, .int .i64 h.s, .int .u8 h.c, .int .i64 h.v, .str h.ab]
def avF (F : Ft) : List AV := [.bool F.z, .int .i64 F.fr, .int .i64 F.off, .int .i64 F.a.m, .int .i64 F.a.k, .int .i64 F.a.w, .int .i64 F.a.n, .int .i64 F.a.s, .int .u8 F.a.c, .int .i64 F.a.v, .str F.a.ab, .int .i64 F.b.m, .int .i64 F.b.k, .int .i64 F.b.w, .int .i64 F.b.n, .int .i64 F.b.s, .int .u8 F.b.c, .int .i64 F.b.v, .str F.b.ab]
def rdH : List AV → Option Hf
 | [.int .i64 m, .int .i64 k, .int .i64 w, .int .i64 n, .int .i64 s, .int .u8 c, .int .i64 v, .str ab] => some ⟨m, k, w, n, s, c, v, ab⟩
 | _ => none
def rdF : List AV → Option Ft
 | [.bool z, .int .i64 fr, .int .i64 off, .int .i64 m1, .int .i64 k1, .int .i64 w1, .int .i64 n1, .int .i64 s1, .int .u8 c1, .int .i64 v1, .str b1, .int .i64 m2, .int .i64 k2, .int .i64 w2, .int .i64 n2, .int .i64 s2, .int .u8 c2, .int .i64 v2, .str b2] => some ⟨z, fr, off, ⟨m1, k1, w1, n1, s1, c1, v1, b1⟩, ⟨m2, k2, w2, n2, s2, c2, v2, b2⟩⟩
 | _ => none
def avT (x : Tr) : List AV := [.int .i64 x.t, .int .i64 x.off, .bool x.dst, .str x.ab]
def pair (a b : Int) : AV := .tup [.int .i64 a, .int .i64 b]
noncomputable def ccDays : Con
 | [.int .i64 y, .int .i64 m, .int .i64 d] => some (true, .tup [.int .i64 (if DateOk y m d then dnum y m d else 0), .int .i64 (if DateOk y m d then 0 else 10)])
 | _ => none
def ccLen : Con
 | [.int .i64 y, .int .i64 m] => some (true, .int .i64 (mlen y m))
 | _ => none
def ccWk : Con
 | [.int .i64 n] => some (decide (-9223372036854775808 ≤ n ∧ n ≤ 9223372036854775807), .int .i64 (wday n))
 | _ => none
def ccFirst : Con
 | [] => some (true, .int .i64 (-2453698))
 | _ => none
def ccLast : Con
 | [] => some (true, .int .i64 106754173)
 | _ => none
noncomputable def ccDate : Con
 | [.int .i64 n] => some (true, .tup [.int .i64 (if CanDay n then yOf n else 0), .int .i64 (mOf n), .int .i64 (eOf n), .int .i64 (if CanDay n then 0 else 10)])
 | _ => none
noncomputable def cyDay : Con
 | [.int .i64 y, .int .i64 m, .agg [.int .i64 k, .int .i64 w, .int .i64 n]] => some (decide (-4718 < y ∧ y < 294282 ∧ 1 ≤ m ∧ m ≤ 12 ∧ OnOk k w n), .tup [.int .i64 (dayOn y m k w n), .int .i64 0])
 | _ => none
def stOk (st : Int) : Bool := decide (st = 1 ∨ st = -1)
def cyTo : Con
 | [.int .i64 n, .int .i64 wd, .int .i64 st] => some (stOk st && decide (-10000000000 ≤ n ∧ n ≤ 10000000000 ∧ 0 ≤ wd ∧ wd ≤ 6), .int .i64 (toF n wd st))
 | _ => none
def cyInst : Con
 | [.int .i64 d, .int .i64 s, .int .u8 c, .int .i64 off, .int .i64 v] => some (decide (-10000000000 ≤ d ∧ d ≤ 10000000000 ∧ 0 ≤ s ∧ s ≤ 86400 ∧ -50400 ≤ off ∧ off ≤ 50400 ∧ 0 ≤ v ∧ v ≤ 7200), .int .i64 (inst d s c off v))
 | _ => none
def cyTwo : Con
 | [.int .i64 n] => some (decide (0 ≤ n ∧ n ≤ 99), .str (two n))
 | _ => none
def cyBad : Con
 | [.agg [.int .i64 k, .int .i64 w, .int .i64 n]] => some (decide (¬ OnOk k w n), .nili)
 | _ => none
def cyOn : Con
 | [.agg [.int .i64 k, .int .i64 w, .int .i64 n]] => some (true, .tup [.anys, .int .i64 (if OnOk k w n then 0 else 1)])
 | _ => none
def cyAt : Con
 | [.agg [.int .i64 s, .int .u8 c]] => some (true, .tup [.anys, .int .i64 (if AtOk s c then 0 else 1)])
 | _ => none
noncomputable def cyRight : Con
 | [.agg l] => match rdH l with
  | some h => some (true, .bool (decide (HfOk h)))
  | none => none
 | _ => none
noncomputable def cyCan : Con
 | [.agg l] => match rdF l with
  | some F => some (decide (-9223372036854775808 ≤ F.a.m ∧ F.a.m ≤ 9223372036854775807 ∧ -9223372036854775808 ≤ F.b.m ∧ F.b.m ≤ 9223372036854775807), .bool (decide (FtOk F)))
  | none => none
 | _ => none
noncomputable def cyShift : Con
 | [.agg l, .int .i64 y, .bool b] => match rdF l with
  | some F => some (decide (FtOk F ∧ -4718 < y ∧ y < 294282), .agg (avT (tr F b y)))
  | none => none
 | _ => none
noncomputable def cyRshift : Con
 | [.agg l, .agg k, .int .i64 off, .int .i64 y] => match rdH l, rdH k with
  | some h, some o => some (decide (HfOk h ∧ HfOk o ∧ -50400 ≤ off ∧ off ≤ 50400 ∧ -4718 < y ∧ y < 294282), .agg (avT (tran h o off y)))
  | _, _ => none
 | _ => none
noncomputable def cyYear : Con
 | [.int .i64 u] => some (decide (-9223372036854775808 ≤ u ∧ u ≤ 9223372036854775807), .int .i64 (yAt u))
 | _ => none
noncomputable def err2 (F : Ft) (u : Int) : Int := if FtOk F then (if -4714 ≤ yAt u ∧ yAt u ≤ 294278 then 0 else 10) else 1
noncomputable def tZ (F : Ft) (u : Int) (i : Int) : Tr := ⟨if AskOk F u then (sI F i).t else 0, if AskOk F u then (sI F i).off else 0, if AskOk F u then (sI F i).dst else false, if AskOk F u then (sI F i).ab else ⟨#[]⟩⟩
noncomputable def cyStand (d : Int) : Con
 | [.agg l, .int .i64 u] => match rdF l with
  | some F => some (decide (-9223372036854775808 ≤ u ∧ u ≤ 9223372036854775807 ∧ -9223372036854775808 ≤ F.a.m ∧ F.a.m ≤ 9223372036854775807 ∧ -9223372036854775808 ≤ F.b.m ∧ F.b.m ≤ 9223372036854775807), .tup [.agg (avT (tZ F u (ix F u + d))), .int .i64 (err2 F u)])
  | none => none
 | _ => none
noncomputable def cyRyear : Con
 | [.agg l, .int .i64 y] => match rdF l with
  | some F => some (decide (FtOk F ∧ -4718 < y ∧ y < 294282), .tup [.nu 23 4 2 (avT (tr F true y) ++ avT (tr F false y)), .int .i64 0])
  | none => none
 | _ => none
noncomputable def nearL (F : Ft) : Nat → Int → List AV
 | 0, _ => []
 | n + 1, Y => avT (tr F true Y) ++ (avT (tr F false Y) ++ nearL F n (Y + 1))
noncomputable def cyNear : Con
 | [.agg l, .int .i64 u] => match rdF l with
  | some F => some (decide (AskOk F u) && decide (-9223372036854775808 ≤ u ∧ u ≤ 9223372036854775807), .tup [.nu 23 4 10 (nearL F 5 (yAt u - 2)), .int .i64 0])
  | none => none
 | _ => none
def cyKnown : Con
 | [] => some (true, .bool true)
 | _ => none
def cyHalf : Con
 | [.agg l] => match rdH l with
  | some h => some (true, .agg (avH h))
  | none => none
 | _ => none
theorem rdH_ok {l : List AV} {h : Hf} (e : rdH l = some h) : l = avH h := by
 unfold rdH at e
 split at e
 · cases e; rfl
 · cases e
theorem rdF_ok {l : List AV} {F : Ft} (e : rdF l = some F) : l = avF F := by
 unfold rdF at e
 split at e
 · cases e; rfl
 · cases e
@[irreducible] def AF (T : Tab) (n g : Nat) (args : List AV) (K : AV → Prop) : Prop := afn PA Tryz.prog T noLoops n g args fun u h => nuK h u K
theorem af_con {T : Tab} (hT : TabOk Tryz.prog T) {g : Nat} (hn : (Tryz.prog.funcs[g]?).any (fun fn => !(fn.name == "runtime.NumGoroutine")) = true) {con : Con} (h : ∀ args p v, con args = some (p, v) → p = true → v.okN 4 = true ∧ ∃ n, AF T n g args fun u => u = v) : COk Tryz.prog g con := by
 intro args p v hc hp w A hA
 obtain ⟨h1, n, h2⟩ := h args p v hc hp
 refine givesN_ok mixed hT hn (zI Tryz.prog g) (n := n) h1 ?_ hA
 unfold AF at h2
 with_reducible exact h2
theorem af_gives {T : Tab} (hT : TabOk Tryz.prog T) {g : Nat} (hn : (Tryz.prog.funcs[g]?).any (fun fn => !(fn.name == "runtime.NumGoroutine")) = true) {args : List AV} {v : AV} (h1 : v.okN 4 = true) {n : Nat} (h2 : AF T n g args fun u => u = v) {w : World} {A : List Value} (hA : RL noNames w args A) : Gives Tryz.prog g A.toArray w fun V w' => (RV noNames w' v V ∧ Below w.heap.size w w') ∧ Fr w.heap.size 4 v V := by
 refine givesN_ok mixed hT hn (zI Tryz.prog g) (n := n) h1 ?_ hA
 unfold AF at h2
 with_reducible exact h2
theorem af_textP {P : Program} (hm : P.follows .mixedOrders = true) {T : Tab} (hT : TabOk P T) {g : Nat} (hn : (P.funcs[g]?).any (fun fn => !(fn.name == "runtime.NumGoroutine")) = true) {args : List AV} {x : Int} {n : Nat} (h2 : afn PA P T noLoops n g args fun u h => nuK h u fun u => ∃ s, u = .tup [.str s, .int .i64 x]) {w : World} {A : List Value} (hA : RL noNames w args A) :
 Gives P g A.toArray w fun V w' => (RV noNames w' (.tup [.anys, .int .i64 x]) V ∧ Below w.heap.size w w') ∧ Fr w.heap.size 4 (.tup [.anys, .int .i64 x]) V := by
 cases hf : P.funcs[g]? with
 | none => simp [hf] at hn
 | some fn =>
  simp [hf] at hn
  have hb : fn.body.isSome = true := by
   have h3 := h2
   unfold afn at h3
   simp only [hf] at h3
   exact bodyA_some h3
  refine .inl ⟨zM hf hb (by simpa using hn) _ _, (afn_ok hm hT (zI P g) h2 hA).mono fun e w' he => ?_⟩
  obtain ⟨V, g1, ρ', u, h', g2, g3, g4⟩ := he
  obtain ⟨c1, s, hs⟩ := brc_false.1 g4
  obtain ⟨k1, k2⟩ := toNu_ok g3 4 g2 (by rw [hs]; rfl) c1
  rw [hs] at k1
  refine ⟨V, g1, ⟨?_, g3.bel⟩, Fr.flat 4 rfl⟩
  simp only [bK, kG, kL, kZ, kM] at k1
  obtain ⟨_, rfl, _, _, rfl, rfl, _, _, rfl, rfl, rfl⟩ := k1
  exact .tup (.cons (.anys _) (.cons (.int _ _) .nil))
theorem af_text {T : Tab} (hT : TabOk Tryz.prog T) {g : Nat} (hn : (Tryz.prog.funcs[g]?).any (fun fn => !(fn.name == "runtime.NumGoroutine")) = true) {args : List AV} {x : Int} {n : Nat} (h2 : AF T n g args fun u => ∃ s, u = .tup [.str s, .int .i64 x]) {w : World} {A : List Value} (hA : RL noNames w args A) :
 Gives Tryz.prog g A.toArray w fun V w' => (RV noNames w' (.tup [.anys, .int .i64 x]) V ∧ Below w.heap.size w w') ∧ Fr w.heap.size 4 (.tup [.anys, .int .i64 x]) V := by
 refine af_textP (n := n) mixed hT hn ?_ hA
 unfold AF at h2
 with_reducible exact h2
theorem brcT {b : Bool} {X Y : Prop} (h : b = true) (a : X) : brc b X Y := by subst h; exact a
theorem brcF {b : Bool} {X Y : Prop} (h : b = false) (a : Y) : brc b X Y := by subst h; exact a
theorem brc_tt (X Y : Prop) : brc true X Y = X := rfl
theorem brc_ff (X Y : Prop) : brc false X Y = Y := rfl
theorem wv {x : Int} (h1 : -9223372036854775808 ≤ x) (h2 : x ≤ 9223372036854775807) : IntKind.wrap .i64 x = x := by rw [A.wrap_i64]; exact w64 h1 h2
theorem ccDays_ok : COk Tryz.prog 160 ccDays := by
 intro args p v hc hp w A hA
 unfold ccDays at hc
 split at hc
 case h_2 => cases hc
 rename_i y m d
 simp only [Option.some.injEq, Prod.mk.injEq] at hc
 obtain ⟨hq, rfl⟩ := hc
 obtain rfl : A = [.int .i64 y, .int .i64 m, .int .i64 d] := by simpa [kG, kL, kM] using hA
 have hf := days_eq y m d
 by_cases h : DateOk y m d
 · rw [if_pos h] at hf
   exact kK (fn := Tryz.f160) Tryz.func160 (by kernel_rfl) (by kernel_rfl) (jV.calls _ _ _ _ _  w hf) (fun _ => by simp [h, kG, kL, kM, bK]) (fun _ h => by first | exact h | exact h.below)
 · rw [if_neg h] at hf
   exact kK (fn := Tryz.f160) Tryz.func160 (by kernel_rfl) (by kernel_rfl) (jV.calls _ _ _ _ _  w hf) (fun _ => by simp [h, kG, kL, kM, bK]) (fun _ h => by first | exact h | exact h.below)
theorem ccDays_okR : COk Tryz.prog 121 ccDays := by
 intro args p v hc hp w A hA
 unfold ccDays at hc
 split at hc
 case h_2 => cases hc
 rename_i y m d
 simp only [Option.some.injEq, Prod.mk.injEq] at hc
 obtain ⟨hq, rfl⟩ := hc
 obtain rfl : A = [.int .i64 y, .int .i64 m, .int .i64 d] := by simpa [kG, kL, kM] using hA
 obtain ⟨K, hK⟩ := rdays_ev y m d
 have hf := hK K (Nat.le_refl _)
 by_cases h : DateOk y m d
 · rw [if_pos h] at hf
   exact kK (fn := Tryz.f121) Tryz.func121 (by kernel_rfl) (by kernel_rfl) (bF.calls K _ _ _ _ _  w hf) (fun _ => by simp [h, kG, kL, kM, bK]) (fun _ h => by first | exact h | exact h.below)
 · rw [if_neg h] at hf
   exact kK (fn := Tryz.f121) Tryz.func121 (by kernel_rfl) (by kernel_rfl) (bF.calls K _ _ _ _ _  w hf) (fun _ => by simp [h, kG, kL, kM, bK]) (fun _ h => by first | exact h | exact h.below)
theorem ccLen_ok : COk Tryz.prog 161 ccLen := by
 intro args p v hc hp w A hA
 unfold ccLen at hc
 split at hc
 case h_2 => cases hc
 rename_i y m
 simp only [Option.some.injEq, Prod.mk.injEq] at hc
 obtain ⟨hq, rfl⟩ := hc
 obtain rfl : A = [.int .i64 y, .int .i64 m] := by simpa [kG, kL, kM] using hA
 have hf := len_eq y m
 exact kK (fn := Tryz.f161) Tryz.func161 (by kernel_rfl) (by kernel_rfl) (jW.calls _ _ _  w hf) (fun _ => by simp [kG, kL, kM, bK]) (fun _ h => by first | exact h | exact h.below)
theorem ccLen_okR : COk Tryz.prog 143 ccLen := by
 intro args p v hc hp w A hA
 unfold ccLen at hc
 split at hc
 case h_2 => cases hc
 rename_i y m
 simp only [Option.some.injEq, Prod.mk.injEq] at hc
 obtain ⟨hq, rfl⟩ := hc
 obtain rfl : A = [.int .i64 y, .int .i64 m] := by simpa [kG, kL, kM] using hA
 obtain ⟨K, hK⟩ := rlen_ev y m
 have hf := hK K (Nat.le_refl _)
 exact kK (fn := Tryz.f143) Tryz.func143 (by kernel_rfl) (by kernel_rfl) (kA.calls K _ _ _  w hf) (fun _ => by simp [kG, kL, kM, bK]) (fun _ h => by first | exact h | exact h.below)
theorem ccWk_ok : COk Tryz.prog 189 ccWk := by
 intro args p v hc hp w A hA
 unfold ccWk at hc
 split at hc
 case h_2 => cases hc
 rename_i n
 simp only [Option.some.injEq, Prod.mk.injEq] at hc
 obtain ⟨hq, rfl⟩ := hc
 obtain rfl : A = [.int .i64 n] := by simpa [kG, kL, kM] using hA
 subst hq
 have hp := of_decide_eq_true hp
 have hf := weekday_eq n hp
 exact kK (fn := Tryz.f189) Tryz.func189 (by kernel_rfl) (by kernel_rfl) (civil_Weekday.calls _ _  w hf) (fun _ => by simp [kG, kL, kM, bK]) (fun _ h => by first | exact h | exact h.below)
theorem ccWk_okR : COk Tryz.prog 181 ccWk := by
 intro args p v hc hp w A hA
 unfold ccWk at hc
 split at hc
 case h_2 => cases hc
 rename_i n
 simp only [Option.some.injEq, Prod.mk.injEq] at hc
 obtain ⟨hq, rfl⟩ := hc
 obtain rfl : A = [.int .i64 n] := by simpa [kG, kL, kM] using hA
 have hf := rweekday_eq n
 exact kK (fn := Tryz.f181) Tryz.func181 (by kernel_rfl) (by kernel_rfl) (computusref02_Weekday.calls _ _  w hf) (fun _ => by simp [kG, kL, kM, bK]) (fun _ h => by first | exact h | exact h.below)
theorem ccFirst_ok : COk Tryz.prog 128 ccFirst := by
 intro args p v hc hp w A hA
 unfold ccFirst at hc
 split at hc
 case h_2 => cases hc
 simp only [Option.some.injEq, Prod.mk.injEq] at hc
 obtain ⟨hq, rfl⟩ := hc
 obtain rfl : A = [] := by simpa [kG, kL, kM] using hA
 have hf := firstday_eq
 exact kK (fn := Tryz.f128) Tryz.func128 (by kernel_rfl) (by kernel_rfl) (civil_First.calls _  w hf) (fun _ => by simp [kG, kL, kM, bK]) (fun _ h => by first | exact h | exact h.below)
theorem ccLast_ok : COk Tryz.prog 129 ccLast := by
 intro args p v hc hp w A hA
 unfold ccLast at hc
 split at hc
 case h_2 => cases hc
 simp only [Option.some.injEq, Prod.mk.injEq] at hc
 obtain ⟨hq, rfl⟩ := hc
 obtain rfl : A = [] := by simpa [kG, kL, kM] using hA
 have hf := lastday_eq
 exact kK (fn := Tryz.f129) Tryz.func129 (by kernel_rfl) (by kernel_rfl) (civil_Last.calls _  w hf) (fun _ => by simp [kG, kL, kM, bK]) (fun _ h => by first | exact h | exact h.below)
theorem ccFirst_okR : COk Tryz.prog 108 ccFirst := by
 intro args p v hc hp w A hA
 unfold ccFirst at hc
 split at hc
 case h_2 => cases hc
 simp only [Option.some.injEq, Prod.mk.injEq] at hc
 obtain ⟨hq, rfl⟩ := hc
 obtain rfl : A = [] := by simpa [kG, kL, kM] using hA
 obtain ⟨K, hK⟩ := rfirst_ev
 have hf := hK K (Nat.le_refl _)
 exact kK (fn := Tryz.f108) Tryz.func108 (by kernel_rfl) (by kernel_rfl) (bZ.calls K _  w hf) (fun _ => by simp [kG, kL, kM, bK]) (fun _ h => by first | exact h | exact h.below)
theorem ccDate_ok : COk Tryz.prog 130 ccDate := by
 intro args p v hc hp w A hA
 unfold ccDate at hc
 split at hc
 case h_2 => cases hc
 rename_i n
 simp only [Option.some.injEq, Prod.mk.injEq] at hc
 obtain ⟨hq, rfl⟩ := hc
 obtain rfl : A = [.int .i64 n] := by simpa [kG, kL, kM] using hA
 by_cases h : CanDay n
 · have hf := date_eq (ymd_is n h) h
   exact kK (fn := Tryz.f130) Tryz.func130 (by kernel_rfl) (by kernel_rfl) (jJ.calls _ _ _ _ _  w hf) (fun _ => by simp [h, kG, kL, kM, bK]) (fun _ h => by first | exact h | exact h.below)
 · have hf := date_no h
   exact kK (fn := Tryz.f130) Tryz.func130 (by kernel_rfl) (by kernel_rfl) (jJ.calls _ _ _ _ _  w hf) (fun _ => by simp [h, mOf, eOf, kG, kL, kM, bK]) (fun _ h => by first | exact h | exact h.below)
theorem ccDate_okR : COk Tryz.prog 107 ccDate := by
 intro args p v hc hp w A hA
 unfold ccDate at hc
 split at hc
 case h_2 => cases hc
 rename_i n
 simp only [Option.some.injEq, Prod.mk.injEq] at hc
 obtain ⟨hq, rfl⟩ := hc
 obtain rfl : A = [.int .i64 n] := by simpa [kG, kL, kM] using hA
 by_cases h : CanDay n
 · obtain ⟨K, hK⟩ := rdate_ev (ymd_is n h) h
   have hf := hK K (Nat.le_refl _)
   exact kK (fn := Tryz.f107) Tryz.func107 (by kernel_rfl) (by kernel_rfl) (kC.calls K _ _ _ _ _  w hf) (fun _ => by simp [h, kG, kL, kM, bK]) (fun _ h => by first | exact h | exact h.below)
 · obtain ⟨K, hK⟩ := rdate_no h
   have hf := hK K (Nat.le_refl _)
   exact kK (fn := Tryz.f107) Tryz.func107 (by kernel_rfl) (by kernel_rfl) (kC.calls K _ _ _ _ _  w hf) (fun _ => by simp [h, mOf, eOf, kG, kL, kM, bK]) (fun _ h => by first | exact h | exact h.below)
end
end Go.Proofs.YtimgphlfaninnaaGreat.P
namespace Go.Proofs.YtimgphlfaninnaaGreat.P
open Go Go.RowKit Go.Proofs.YtimgphlfaninnaaGreat.Civ Go.Proofs.YtimgphlfaninnaaGreat.Ft
set_option linter.unusedVariables false
set_option linter.unusedSimpArgs false
section
open A
def goT (wd st : Int) (K : Int → Prop) : Nat → Int → Prop
 | 0, x => False
 | r + 1, x => brc (decide (-9223372036854775808 ≤ x ∧ x ≤ 9223372036854775807)) (∀ m : Int, m = wday x → brc (m != wd) (goT wd st K r (IntKind.wrap .i64 (x + st))) (K x)) False
set_option maxRecDepth 100000 in
theorem to_vc (n wd st : Int) (K : AV → Prop) : AF (tab [(189, ccWk)]) 9 185 [.int .i64 n, .int .i64 wd, .int .i64 st] K = goT wd st (fun x => K (.int .i64 x)) 9 n := by kernel_rfl
theorem goT_ok {wd st n : Int} {K : Int → Prop} (hs : st = 1 ∨ st = -1) (hw : 0 ≤ wd ∧ wd ≤ 6) (hn : -10000000000 ≤ n ∧ n ≤ 10000000000) (hK : K (toF n wd st)) : ∀ (r : Nat) (x : Int) (j : Nat), x = n + j * st → (if st = 1 then (wd - wday n) % 7 else (wday n - wd) % 7) = j + (toF n wd st - x) * st → 0 ≤ (toF n wd st - x) * st → (toF n wd st - x) * st < r → goT wd st K r x := by
 intro r
 induction r with
 | zero => intro x j _ _ h1 h2; omega
 | succ r ih =>
  intro x j hx hj h1 h2
  have hb : 0 ≤ toF n wd st - n + 6 ∧ toF n wd st - n ≤ 6 := by have := toF_bd n wd st; omega
  refine brcT (decide_eq_true ?_) ?_
  · rcases hs with rfl | rfl <;> omega
  rintro _ rfl
  by_cases e : x = toF n wd st
  · subst e
    refine brcF ?_ hK
    have : wday (toF n wd st) = wd := by
     unfold toF wday
     split <;> omega
    rw [this]; simp
  · refine brcT ?_ ?_
    · have : wday x ≠ wd := by
       intro q
       apply e
       unfold toF wday at *
       rcases hs with rfl | rfl
       · simp only [if_true] at *; omega
       · simp only [show ¬ ((-1 : Int) = 1) by omega, if_false] at *; omega
      simpa using this
    · rw [wv (by rcases hs with rfl | rfl <;> omega) (by rcases hs with rfl | rfl <;> omega)]
      refine ih (x + st) (j + 1) ?_ ?_ ?_ ?_
      · rcases hs with rfl | rfl <;> omega
      · rcases hs with rfl | rfl <;> omega
      · rcases hs with rfl | rfl <;> omega
      · rcases hs with rfl | rfl <;> omega
theorem cyTo_ok : COk Tryz.prog 185 cyTo := af_con (kD ccWk_ok bE) (by kernel_rfl) fun args p v hc hp => by
 unfold cyTo at hc
 split at hc
 case h_2 => cases hc
 rename_i n wd st
 simp only [Option.some.injEq, Prod.mk.injEq] at hc
 obtain ⟨rfl, rfl⟩ := hc
 rw [Bool.and_eq_true] at hp
 obtain ⟨h1, h2, h3, h4⟩ := of_decide_eq_true hp.2
 have h5 : st = 1 ∨ st = -1 := of_decide_eq_true hp.1
 refine ⟨rfl, 9, ?_⟩
 rw [to_vc]
 refine goT_ok (K := fun x => AV.int .i64 x = AV.int .i64 (toF n wd st)) h5 ⟨h3, h4⟩ ⟨h1, h2⟩ rfl 9 n 0 (by omega) ?_ ?_ ?_
 · unfold toF; rcases h5 with rfl | rfl
   · simp only [if_true]; omega
   · simp only [show ¬ ((-1 : Int) = 1) by omega, if_false]; omega
 · unfold toF; rcases h5 with rfl | rfl
   · simp only [if_true]; omega
   · simp only [show ¬ ((-1 : Int) = 1) by omega, if_false]; omega
 · unfold toF; rcases h5 with rfl | rfl
   · simp only [if_true]; omega
   · simp only [show ¬ ((-1 : Int) = 1) by omega, if_false]; omega
theorem first_ok {y m : Int} (h1 : -4718 < y) (h2 : y < 294282) (h3 : 1 ≤ m) (h4 : m ≤ 12) : DateOk y m 1 ∧ -3000000 ≤ dnum y m 1 ∧ dnum y m 1 ≤ 110000000 := by
 have a := mlen_bd y m h3 h4
 have b := cum_top (y := y) h3 h4
 refine ⟨⟨by omega, by omega, h3, h4, by omega, by omega⟩, ?_⟩
 unfold dnum dby
 omega
set_option maxRecDepth 100000 in
theorem day0_vc (y m w n : Int) (K : AV → Prop) : AF (tab [(185, cyTo), (160, ccDays), (161, ccLen)]) 6 176 [.int .i64 y, .int .i64 m, .agg [.int .i64 0, .int .i64 w, .int .i64 n]] K =
 (brc (w == 0) (brc (decide (n ≥ 1)) (brc (!decide (n ≤ 31)) (K (AV.tup [.int .i64 0, .int .i64 1])) (brc (decide (m < 1)) (K (AV.tup [.int .i64 0, .int .i64 1])) (brc (decide (m > 12)) (K (AV.tup [.int .i64 0, .int .i64 1])) (brc (decide (y ≤ -4718)) (K (AV.tup [.int .i64 0, .int .i64 10])) (brc (decide (y ≥ 294282)) (K (AV.tup [.int .i64 0, .int .i64 10])) (∀ (m0 : Int), (m0 = if DateOk y m 1 then dnum y m 1 else 0) → ∀ (m1 : Int), (m1 = if DateOk y m 1 then 0 else 10) → K (AV.tup [.int .i64 (IntKind.wrap .i64 (IntKind.wrap .i64 (m0 + n) - 1)), .int .i64 0]))))))) (K (AV.tup [.int .i64 0, .int .i64 1]))) (K (AV.tup [.int .i64 0, .int .i64 1]))) := by kernel_rfl
set_option maxRecDepth 100000 in
theorem day1_vc (y m w n : Int) (K : AV → Prop) : AF (tab [(185, cyTo), (160, ccDays), (161, ccLen)]) 6 176 [.int .i64 y, .int .i64 m, .agg [.int .i64 1, .int .i64 w, .int .i64 n]] K =
 (brc (n == 0) (brc (decide (w ≥ 0)) (brc (!decide (w ≤ 6)) (K (AV.tup [.int .i64 0, .int .i64 1])) (brc (decide (m < 1)) (K (AV.tup [.int .i64 0, .int .i64 1])) (brc (decide (m > 12)) (K (AV.tup [.int .i64 0, .int .i64 1])) (brc (decide (y ≤ -4718)) (K (AV.tup [.int .i64 0, .int .i64 10])) (brc (decide (y ≥ 294282)) (K (AV.tup [.int .i64 0, .int .i64 10])) (∀ (m0 : Int), (m0 = if DateOk y m 1 then dnum y m 1 else 0) → ∀ (m1 : Int), (m1 = if DateOk y m 1 then 0 else 10) → ∀ m2 : Int, m2 = mlen y m → brc (decide (-10000000000 ≤ IntKind.wrap .i64 (IntKind.wrap .i64 (m0 + m2) - 1) ∧ IntKind.wrap .i64 (IntKind.wrap .i64 (m0 + m2) - 1) ≤ 10000000000 ∧ 0 ≤ w ∧ w ≤ 6)) (∀ m3 : Int, m3 = toF (IntKind.wrap .i64 (IntKind.wrap .i64 (m0 + m2) - 1)) w (-1) → K (AV.tup [.int .i64 m3, .int .i64 0])) False)))))) (K (AV.tup [.int .i64 0, .int .i64 1]))) (K (AV.tup [.int .i64 0, .int .i64 1]))) := by kernel_rfl
set_option maxRecDepth 100000 in
theorem day2_vc (y m w n : Int) (K : AV → Prop) : AF (tab [(185, cyTo), (160, ccDays), (161, ccLen)]) 6 176 [.int .i64 y, .int .i64 m, .agg [.int .i64 2, .int .i64 w, .int .i64 n]] K =
 (brc (decide (w ≥ 0)) (brc (decide (w ≤ 6)) (brc (decide (n ≥ 1)) (brc (!decide (n ≤ 31)) (K (AV.tup [.int .i64 0, .int .i64 1])) (brc (decide (m < 1)) (K (AV.tup [.int .i64 0, .int .i64 1])) (brc (decide (m > 12)) (K (AV.tup [.int .i64 0, .int .i64 1])) (brc (decide (y ≤ -4718)) (K (AV.tup [.int .i64 0, .int .i64 10])) (brc (decide (y ≥ 294282)) (K (AV.tup [.int .i64 0, .int .i64 10])) (∀ (m0 : Int), (m0 = if DateOk y m 1 then dnum y m 1 else 0) → ∀ (m1 : Int), (m1 = if DateOk y m 1 then 0 else 10) → brc (decide (-10000000000 ≤ IntKind.wrap .i64 (IntKind.wrap .i64 (m0 + n) - 1) ∧ IntKind.wrap .i64 (IntKind.wrap .i64 (m0 + n) - 1) ≤ 10000000000 ∧ 0 ≤ w ∧ w ≤ 6)) (∀ m2 : Int, m2 = toF (IntKind.wrap .i64 (IntKind.wrap .i64 (m0 + n) - 1)) w 1 → K (AV.tup [.int .i64 m2, .int .i64 0])) False)))))) (K (AV.tup [.int .i64 0, .int .i64 1]))) (K (AV.tup [.int .i64 0, .int .i64 1]))) (K (AV.tup [.int .i64 0, .int .i64 1]))) := by kernel_rfl
set_option maxRecDepth 100000 in
theorem day3_vc (y m w n : Int) (K : AV → Prop) : AF (tab [(185, cyTo), (160, ccDays), (161, ccLen)]) 6 176 [.int .i64 y, .int .i64 m, .agg [.int .i64 3, .int .i64 w, .int .i64 n]] K =
 (brc (decide (w ≥ 0)) (brc (decide (w ≤ 6)) (brc (decide (n ≥ 1)) (brc (!decide (n ≤ 31)) (K (AV.tup [.int .i64 0, .int .i64 1])) (brc (decide (m < 1)) (K (AV.tup [.int .i64 0, .int .i64 1])) (brc (decide (m > 12)) (K (AV.tup [.int .i64 0, .int .i64 1])) (brc (decide (y ≤ -4718)) (K (AV.tup [.int .i64 0, .int .i64 10])) (brc (decide (y ≥ 294282)) (K (AV.tup [.int .i64 0, .int .i64 10])) (∀ (m0 : Int), (m0 = if DateOk y m 1 then dnum y m 1 else 0) → ∀ (m1 : Int), (m1 = if DateOk y m 1 then 0 else 10) → brc (decide (-10000000000 ≤ IntKind.wrap .i64 (IntKind.wrap .i64 (m0 + n) - 1) ∧ IntKind.wrap .i64 (IntKind.wrap .i64 (m0 + n) - 1) ≤ 10000000000 ∧ 0 ≤ w ∧ w ≤ 6)) (∀ m2 : Int, m2 = toF (IntKind.wrap .i64 (IntKind.wrap .i64 (m0 + n) - 1)) w (-1) → K (AV.tup [.int .i64 m2, .int .i64 0])) False)))))) (K (AV.tup [.int .i64 0, .int .i64 1]))) (K (AV.tup [.int .i64 0, .int .i64 1]))) (K (AV.tup [.int .i64 0, .int .i64 1]))) := by kernel_rfl
set_option maxRecDepth 100000 in
theorem cyDay_ok : COk Tryz.prog 176 cyDay := af_con (kD cyTo_ok (kD ccDays_ok (kD ccLen_ok bE))) (by kernel_rfl) fun args p v hc hp => by
 unfold cyDay at hc
 split at hc
 case h_2 => cases hc
 rename_i y m k w n
 simp only [Option.some.injEq, Prod.mk.injEq] at hc
 obtain ⟨rfl, rfl⟩ := hc
 obtain ⟨h1, h2, h3, h4, h5⟩ := of_decide_eq_true hp
 obtain ⟨f1, f2, f3⟩ := first_ok h1 h2 h3 h4
 have hl := mlen_bd y m h3 h4
 refine ⟨rfl, 6, ?_⟩
 rcases h5 with ⟨rfl, rfl, h6, h7⟩ | ⟨rfl, rfl, h6, h7⟩ | ⟨rfl | rfl, h6, h7, h8, h9⟩
 · rw [day0_vc]
   simp only [f1, if_true]
   repeat first
    | (rintro _ rfl)
    | ((with_reducible refine brcT ?_ ?_); focus (first | exact decide_eq_true (by omega) | (simp only [decide_eq_true_eq, decide_eq_false_iff_not, Bool.not_eq_true', Bool.not_eq_false', beq_iff_eq, beq_eq_false_iff_ne, bne_iff_ne, bne_eq_false_iff_eq, ne_eq, Bool.and_eq_true, Bool.and_eq_false_iff, Bool.true_and]; omega) | rfl))
    | ((with_reducible refine brcF ?_ ?_); focus (first | exact decide_eq_false (by omega) | (simp only [decide_eq_true_eq, decide_eq_false_iff_not, Bool.not_eq_true', Bool.not_eq_false', beq_iff_eq, beq_eq_false_iff_ne, bne_iff_ne, bne_eq_false_iff_eq, ne_eq, Bool.and_eq_true, Bool.and_eq_false_iff, Bool.true_and]; omega) | rfl))
    | (rw [wv (x := dnum y m 1 + n) (by omega) (by omega), wv (x := dnum y m 1 + n - 1) (by omega) (by omega)])
    | (rw [wv (x := dnum y m 1 + mlen y m) (by omega) (by omega), wv (x := dnum y m 1 + mlen y m - 1) (by omega) (by omega)])
   unfold dayOn
   simp
 · rw [day1_vc]
   simp only [f1, if_true]
   repeat first
    | (rintro _ rfl)
    | ((with_reducible refine brcT ?_ ?_); focus (first | exact decide_eq_true (by omega) | (simp only [decide_eq_true_eq, decide_eq_false_iff_not, Bool.not_eq_true', Bool.not_eq_false', beq_iff_eq, beq_eq_false_iff_ne, bne_iff_ne, bne_eq_false_iff_eq, ne_eq, Bool.and_eq_true, Bool.and_eq_false_iff, Bool.true_and]; omega) | rfl))
    | ((with_reducible refine brcF ?_ ?_); focus (first | exact decide_eq_false (by omega) | (simp only [decide_eq_true_eq, decide_eq_false_iff_not, Bool.not_eq_true', Bool.not_eq_false', beq_iff_eq, beq_eq_false_iff_ne, bne_iff_ne, bne_eq_false_iff_eq, ne_eq, Bool.and_eq_true, Bool.and_eq_false_iff, Bool.true_and]; omega) | rfl))
    | (rw [wv (x := dnum y m 1 + n) (by omega) (by omega), wv (x := dnum y m 1 + n - 1) (by omega) (by omega)])
    | (rw [wv (x := dnum y m 1 + mlen y m) (by omega) (by omega), wv (x := dnum y m 1 + mlen y m - 1) (by omega) (by omega)])
   unfold dayOn
   simp
 · rw [day2_vc]
   simp only [f1, if_true]
   repeat first
    | (rintro _ rfl)
    | ((with_reducible refine brcT ?_ ?_); focus (first | exact decide_eq_true (by omega) | (simp only [decide_eq_true_eq, decide_eq_false_iff_not, Bool.not_eq_true', Bool.not_eq_false', beq_iff_eq, beq_eq_false_iff_ne, bne_iff_ne, bne_eq_false_iff_eq, ne_eq, Bool.and_eq_true, Bool.and_eq_false_iff, Bool.true_and]; omega) | rfl))
    | ((with_reducible refine brcF ?_ ?_); focus (first | exact decide_eq_false (by omega) | (simp only [decide_eq_true_eq, decide_eq_false_iff_not, Bool.not_eq_true', Bool.not_eq_false', beq_iff_eq, beq_eq_false_iff_ne, bne_iff_ne, bne_eq_false_iff_eq, ne_eq, Bool.and_eq_true, Bool.and_eq_false_iff, Bool.true_and]; omega) | rfl))
    | (rw [wv (x := dnum y m 1 + n) (by omega) (by omega), wv (x := dnum y m 1 + n - 1) (by omega) (by omega)])
    | (rw [wv (x := dnum y m 1 + mlen y m) (by omega) (by omega), wv (x := dnum y m 1 + mlen y m - 1) (by omega) (by omega)])
   unfold dayOn
   simp
 · rw [day3_vc]
   simp only [f1, if_true]
   repeat first
    | (rintro _ rfl)
    | ((with_reducible refine brcT ?_ ?_); focus (first | exact decide_eq_true (by omega) | (simp only [decide_eq_true_eq, decide_eq_false_iff_not, Bool.not_eq_true', Bool.not_eq_false', beq_iff_eq, beq_eq_false_iff_ne, bne_iff_ne, bne_eq_false_iff_eq, ne_eq, Bool.and_eq_true, Bool.and_eq_false_iff, Bool.true_and]; omega) | rfl))
    | ((with_reducible refine brcF ?_ ?_); focus (first | exact decide_eq_false (by omega) | (simp only [decide_eq_true_eq, decide_eq_false_iff_not, Bool.not_eq_true', Bool.not_eq_false', beq_iff_eq, beq_eq_false_iff_ne, bne_iff_ne, bne_eq_false_iff_eq, ne_eq, Bool.and_eq_true, Bool.and_eq_false_iff, Bool.true_and]; omega) | rfl))
    | (rw [wv (x := dnum y m 1 + n) (by omega) (by omega), wv (x := dnum y m 1 + n - 1) (by omega) (by omega)])
    | (rw [wv (x := dnum y m 1 + mlen y m) (by omega) (by omega), wv (x := dnum y m 1 + mlen y m - 1) (by omega) (by omega)])
   unfold dayOn
   simp
def goD (wd : Int) (f : Int → Int) (K : Int → Prop) : Nat → Int → Prop
 | 0, x => K x
 | r + 1, x => brc (decide (-9223372036854775808 ≤ x ∧ x ≤ 9223372036854775807)) (∀ m : Int, m = wday x → brc (m != wd) (goD wd f K r (IntKind.wrap .i64 (f x))) (K x)) False
theorem goD_up {wd n : Int} {K : Int → Prop} (hw : 0 ≤ wd ∧ wd ≤ 6) (hn : -10000000000 ≤ n ∧ n ≤ 10000000000) (hK : K (toF n wd 1)) : ∀ (r : Nat) (x : Int), n ≤ x → x ≤ toF n wd 1 → toF n wd 1 - x ≤ r → goD wd (fun x => x + 1) K r x := by
 intro r
 induction r with
 | zero =>
  intro x h1 h2 h3
  rw [show x = toF n wd 1 by omega]; exact hK
 | succ r ih =>
  intro x h1 h2 h3
  have hb := toF_bd n wd 1
  refine brcT (decide_eq_true (by omega)) ?_
  rintro _ rfl
  by_cases e : x = toF n wd 1
  · subst e
    refine brcF ?_ hK
    have : wday (toF n wd 1) = wd := by unfold toF wday; simp only [if_true]; omega
    rw [this]; simp
  · refine brcT ?_ ?_
    · have : wday x ≠ wd := by
       intro q; apply e; unfold toF wday at *; simp only [if_true] at *; omega
      simpa using this
    · show goD wd _ K r (IntKind.wrap .i64 (x + 1))
      rw [wv (by omega) (by omega)]
      exact ih (x + 1) (by omega) (by omega) (by omega)
theorem goD_down {wd n : Int} {K : Int → Prop} (hw : 0 ≤ wd ∧ wd ≤ 6) (hn : -10000000000 ≤ n ∧ n ≤ 10000000000) (hK : K (toF n wd (-1))) : ∀ (r : Nat) (x : Int), x ≤ n → toF n wd (-1) ≤ x → x - toF n wd (-1) ≤ r → goD wd (fun x => x - 1) K r x := by
 intro r
 induction r with
 | zero =>
  intro x h1 h2 h3
  rw [show x = toF n wd (-1) by omega]; exact hK
 | succ r ih =>
  intro x h1 h2 h3
  have hb := toF_bd n wd (-1)
  refine brcT (decide_eq_true (by omega)) ?_
  rintro _ rfl
  by_cases e : x = toF n wd (-1)
  · subst e
    refine brcF ?_ hK
    have : wday (toF n wd (-1)) = wd := by unfold toF wday; simp only [show ¬ ((-1 : Int) = 1) by omega, if_false]; omega
    rw [this]; simp
  · refine brcT ?_ ?_
    · have : wday x ≠ wd := by
       intro q; apply e; unfold toF wday at *; simp only [show ¬ ((-1 : Int) = 1) by omega, if_false] at *; omega
      simpa using this
    · show goD wd _ K r (IntKind.wrap .i64 (x - 1))
      rw [wv (by omega) (by omega)]
      exact ih (x - 1) (by omega) (by omega) (by omega)
end
end Go.Proofs.YtimgphlfaninnaaGreat.P
