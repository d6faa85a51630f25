-- Written by a program of the session (a print of the seat's translation, functions given by hand among it). Lean checks it.
import Derived.Test.YtgjbdojpncmmlaaQbjoegdnofm
namespace Go.Proofs.Ytgjbdojpncmmlaa.P
open Go.RowKit Go.Proofs.YtgjbdojpncmmlaaW.PrintWords Go.Proofs.YtgjbdojpncmmlaaW.PrintLast Go.Proofs.YtgjbdojpncmmlaaW.PrintMore
open Go.Proofs.Ytgjbdojpncmmlaa.A
attribute [local go_sem] max2_int min2_int max_two min_two max_three min_three max_four min_four   -- for this text's walks alone
set_option linter.unusedVariables false
set_option linter.unusedSimpArgs false
def day_finite.f (a0 : Int) (a1 : Int) : Option (Int × Int × Int) := if a1 = 0 then ((day_inside.f a0).bind fun t120 => (if t120 = true then (some (0, a0, 0)) else (some (0, 0, 10)))) else (some (0, 0, 10))
set_option maxRecDepth 100000 in
theorem day_finite.vc (a0 : Int) (a1 : Int) (K : AV → Prop) : afv PA Try.prog (tab [(40, day_inside.con)]) noLoops 2 34 [.int .i64 a0, .int .i64 a1] K = (brc (a1 != 0) (K (AV.tup [AV.agg [AV.int IntKind.i64 0, AV.int IntKind.i64 0], AV.int IntKind.i64 10])) (brc (Option.isSome (day_inside.f a0)) (∀ (m0 : Bool), m0 = gd (day_inside.f a0) → brc (!m0) (K (AV.tup [AV.agg [AV.int IntKind.i64 0, AV.int IntKind.i64 0], AV.int IntKind.i64 10])) (K (AV.tup [AV.agg [AV.int IntKind.i64 0, AV.int IntKind.i64 a0], AV.int IntKind.i64 0]))) False)) := by kernel_rfl
set_option maxHeartbeats 1000000 in
set_option maxRecDepth 100000 in
theorem day_finite.calls (a0 : Int) (a1 : Int) (r1 : Int) (r2 : Int) (r3 : Int) (w : World) (h : day_finite.f a0 a1 = some (r1, r2, r3)) :
    Calls Try.prog 34 #[.int .i64 a0, .int .i64 a1] w fun e w' => e = .returned (.tuple #[.agg #[.int .i64 r1, .int .i64 r2], .int .i64 r3]) ∧ Below w.heap.size w w' := by
  refine calls_of_vc (A := [.int .i64 a0, .int .i64 a1]) (v := .tup [.agg [.int .i64 r1, .int .i64 r2], .int .i64 r3]) (tab_cons (day_inside.cok) (tab_nil)) ((day_finite.vc a0 a1 _).mpr ?_) (by simp [rl_cons, rl_nil, rv_int, rv_bool, rv_str, rv_agg, rv_fn]) (fun ρ V' hV => by simpa [rl_cons, rl_nil, rv_int, rv_bool, rv_str, rv_agg, rv_tup] using hV)
  unfold day_finite.f at h
  simp only [bne, Option.bind_eq_some_iff, ite_some_iff] at h
  simp only [bne, brc_iff, wrap_i64]
  first
    | grind (splits := 60) [gd_some]
    | ((repeat' (first | (have or_ : Or _ _ := h; clear or_; rcases h with h | h) | (have or_ : Exists _ := h; clear or_; obtain ⟨_, h⟩ := h) | (have or_ : And _ _ := h; clear or_; obtain ⟨_, h⟩ := h))) <;> simp only [Option.some.injEq, Prod.mk.injEq, reduceCtorEq] at h <;> (try subst_vars) <;> simp_all [gd_some] <;> (try omega) <;> done)
    | (intros; subst_vars; simp_all [gd_some]; done)
noncomputable def day_finite.con : Con
  | [.int .i64 a0, .int .i64 a1] => some ((day_finite.f a0 a1).isSome, .tup [.agg [.int .i64 (gd (day_finite.f a0 a1)).1, .int .i64 (gd (day_finite.f a0 a1)).2.1], .int .i64 (gd (day_finite.f a0 a1)).2.2])
  | _ => none
set_option maxRecDepth 100000 in
theorem day_finite.cok : COk Try.prog 34 (day_finite.con) := by
  intro args p v hc hp w A hA
  unfold day_finite.con at hc
  split at hc
  · rename_i a0 a1
    simp only [Option.some.injEq, Prod.mk.injEq] at hc
    obtain ⟨rfl, rfl⟩ := hc
    rcases hf : day_finite.f a0 a1 with _ | ⟨r1, r2, r3⟩
    · rw [hf] at hp; cases hp
    obtain rfl : A = [.int .i64 a0, .int .i64 a1] := by simpa [rl_cons, rl_nil, rv_int, rv_bool, rv_str, rv_agg, rv_fn] using hA
    exact gives_of_calls (fn := Try.f34) Try.func34 (by kernel_rfl) (by kernel_rfl) (day_finite.calls _ _ _ _ _ w hf) (fun _ => by simp [gd_some, rl_cons, rl_nil, rv_int, rv_bool, rv_str, rv_agg, rv_tup]) (fun _ h => h)
  · cases hc
def civil_Leap.f (a0 : Int) : Option (Bool) := if (Int.tmod a0 4) = 0 then (if (Int.tmod a0 100) = 0 then (some ((Int.tmod a0 400) == 0)) else (some true)) else (some false)
set_option maxHeartbeats 8000000 in
set_option maxRecDepth 100000 in
theorem civil_Leap.calls (a0 : Int) (r : Bool) (w : World) (h : civil_Leap.f a0 = some r) :
    Calls Try.prog 87 #[.int .i64 a0] w fun e w' => e = .returned (.bool r) ∧ Drawn0 w w' := by
  have H : (if (Int.tmod a0 4) = 0 then (if (Int.tmod a0 100) = 0 then (some ((Int.tmod a0 400) == 0)) else (some true)) else (some false)) = some r := h
  clear h
  by_cases c2 : (Int.tmod a0 4) = 0
  · rw [if_pos c2] at H
    have c2b0 : ((Int.tmod a0 4) == 0) = true := beq_iff_eq.mpr c2
    have c2b1 : ((Int.tmod a0 4) != 0) = false := bne_eq_false_iff_eq.mpr c2
    clear c2
    by_cases c3 : (Int.tmod a0 100) = 0
    · rw [if_pos c3] at H
      have c3b0 : ((Int.tmod a0 100) == 0) = true := beq_iff_eq.mpr c3
      have c3b1 : ((Int.tmod a0 100) != 0) = false := bne_eq_false_iff_eq.mpr c3
      clear c3
      obtain rfl := Option.some.inj H
      go_enter Try.func87, Try.ntmps87
      go_wp2
      go_ret
      exact ⟨by first | rfl | (simp; done) | (simp [*]; done), by repeat (first | exact Drawn0.refl _ | apply Drawn0.step)⟩
    · rw [if_neg c3] at H
      have c3b0 : ((Int.tmod a0 100) == 0) = false := beq_eq_false_iff_ne.mpr c3
      have c3b1 : ((Int.tmod a0 100) != 0) = true := bne_iff_ne.mpr c3
      obtain rfl := Option.some.inj H
      go_enter Try.func87, Try.ntmps87
      go_wp2
      go_ret
      exact ⟨by first | rfl | (simp; done) | (simp [*]; done), by repeat (first | exact Drawn0.refl _ | apply Drawn0.step)⟩
  · rw [if_neg c2] at H
    have c2b0 : ((Int.tmod a0 4) == 0) = false := beq_eq_false_iff_ne.mpr c2
    have c2b1 : ((Int.tmod a0 4) != 0) = true := bne_iff_ne.mpr c2
    obtain rfl := Option.some.inj H
    go_enter Try.func87, Try.ntmps87
    go_wp2
    go_ret
    exact ⟨by first | rfl | (simp; done) | (simp [*]; done), by repeat (first | exact Drawn0.refl _ | apply Drawn0.step)⟩
def civil_Len.t (a1 : Int) : Int := if a1 = 2 then 28 else if a1 = 4 then 30 else if a1 = 6 then 30 else if a1 = 9 then 30 else if a1 = 11 then 30 else 31
def civil_Len.f (a0 : Int) (a1 : Int) : Option (Int) := if a1 < 1 then (some 0) else (if a1 > 12 then (some 0) else (if a1 = 2 then ((civil_Leap.f a0).bind fun t103 => (if t103 = true then (some 29) else (some 28))) else (some (civil_Len.t a1))))
set_option maxHeartbeats 8000000 in
set_option maxRecDepth 100000 in
theorem civil_Len.calls (a0 : Int) (a1 : Int) (r : Int) (w : World) (h : civil_Len.f a0 a1 = some r) :
    Calls Try.prog 73 #[.int .i64 a0, .int .i64 a1] w fun e w' => e = .returned (.int .i64 r) ∧ Below w.heap.size w w' := by
  have H := h
  unfold civil_Len.f at H
  clear h
  by_cases c2 : a1 < 1
  · rw [if_pos c2] at H
    have c2b0 : decide (a1 < 1) = true := decide_eq_true c2
    obtain rfl := Option.some.inj H
    clear c2
    go_enter Try.func73, Try.ntmps73
    go_wp2
    go_ret
    exact ⟨rfl, by repeat (first | exact Below.refl _ _ | exact (Below.refl _ _).alloc (Nat.le_refl _) _ | (apply Below.setCell _ (by simp)))⟩
  · rw [if_neg c2] at H
    have c2b0 : decide (a1 < 1) = false := decide_eq_false c2
    clear c2
    by_cases c3 : a1 > 12
    · rw [if_pos c3] at H
      have c3b0 : decide (12 < a1) = true := decide_eq_true c3
      obtain rfl := Option.some.inj H
      clear c3
      go_enter Try.func73, Try.ntmps73
      go_wp2
      go_ret
      exact ⟨rfl, by repeat (first | exact Below.refl _ _ | exact (Below.refl _ _).alloc (Nat.le_refl _) _ | (apply Below.setCell _ (by simp)))⟩
    · rw [if_neg c3] at H
      have c3b0 : decide (12 < a1) = false := decide_eq_false c3
      have hlo : 1 ≤ a1 := by have := of_decide_eq_false c2b0; omega
      have hhi : a1 ≤ 12 := by omega
      clear c3
      by_cases c4 : a1 = 2
      · rw [if_pos c4] at H
        subst c4
        clear c2b0 c3b0 hlo hhi
        replace H := Option.bind_eq_some_iff.mp H
        obtain ⟨t103, A40, H⟩ := H
        have A4 := Aside0.mk A40
        clear A40
        cases t103 with
        | true =>
          obtain rfl := Option.some.inj H
          clear H
          go_enter Try.func73, Try.ntmps73
          go_wp2_with (go_at_call 87; (with_reducible refine (civil_Leap.calls a0 true _ A4.out).mono ?_); rintro e w' ⟨rfl, ⟨nd, rfl⟩⟩)
          go_ret
          exact ⟨rfl, by repeat (first | exact Below.refl _ _ | exact (Below.refl _ _).alloc (Nat.le_refl _) _ | (apply kD) | (apply below_drew) | (apply Below.setCell _ (by simp)))⟩
        | false =>
          obtain rfl := Option.some.inj H
          clear H
          go_enter Try.func73, Try.ntmps73
          go_wp2_with (go_at_call 87; (with_reducible refine (civil_Leap.calls a0 false _ A4.out).mono ?_); rintro e w' ⟨rfl, ⟨nd, rfl⟩⟩)
          go_ret
          exact ⟨rfl, by repeat (first | exact Below.refl _ _ | exact (Below.refl _ _).alloc (Nat.le_refl _) _ | (apply kD) | (apply below_drew) | (apply Below.setCell _ (by simp)))⟩
      · rw [if_neg c4] at H
        obtain rfl := Option.some.inj H
        clear H c2b0 c3b0
        rcases (by omega : a1 = 1 ∨ a1 = 3 ∨ a1 = 4 ∨ a1 = 5 ∨ a1 = 6 ∨ a1 = 7 ∨ a1 = 8 ∨ a1 = 9 ∨ a1 = 10 ∨ a1 = 11 ∨ a1 = 12) with e | e | e | e | e | e | e | e | e | e | e <;> subst e <;> clear hlo hhi c4
        all_goals
          go_enter Try.func73, Try.ntmps73
          go_wp2
          go_ret
          exact ⟨rfl, by repeat (first | exact Below.refl _ _ | exact (Below.refl _ _).alloc (Nat.le_refl _) _ | (apply kD) | (apply below_drew) | (apply Below.setCell _ (by simp)))⟩
noncomputable def civil_Len.con : Con
  | [.int .i64 a0, .int .i64 a1] => some ((civil_Len.f a0 a1).isSome, .int .i64 (gd (civil_Len.f a0 a1)))
  | _ => none
set_option maxRecDepth 100000 in
theorem civil_Len.cok : COk Try.prog 73 (civil_Len.con) := by
  intro args p v hc hp w A hA
  unfold civil_Len.con at hc
  split at hc
  · rename_i a0 a1
    simp only [Option.some.injEq, Prod.mk.injEq] at hc
    obtain ⟨rfl, rfl⟩ := hc
    rcases hf : civil_Len.f a0 a1 with _ | r
    · rw [hf] at hp; cases hp
    obtain rfl : A = [.int .i64 a0, .int .i64 a1] := by simpa [rl_cons, rl_nil, rv_int, rv_bool, rv_str, rv_agg, rv_fn] using hA
    exact gives_of_calls (fn := Try.f73) Try.func73 (by kernel_rfl) (by kernel_rfl) (civil_Len.calls _ _ _ w hf) (fun _ => by simp [gd_some, rl_cons, rl_nil, rv_int, rv_bool, rv_str, rv_agg, rv_tup]) (fun _ h => h)
  · cases hc
def civil_Right.f (a0 : Int) (a1 : Int) (a2 : Int) : Option (Bool) := if a0 ≥ (-4718) then (if a0 ≤ 294282 then (if a2 ≥ 1 then ((civil_Len.f a0 a1).bind fun t121 => (some (decide (a2 ≤ t121)))) else (some false)) else (some false)) else (some false)
set_option maxRecDepth 100000 in
theorem civil_Right.vc (a0 : Int) (a1 : Int) (a2 : Int) (K : AV → Prop) : afv PA Try.prog (tab [(73, civil_Len.con)]) noLoops 2 54 [.int .i64 a0, .int .i64 a1, .int .i64 a2] K = (brc (decide (a0 ≥ -4718)) (brc (decide (a0 ≤ 294282)) (brc (decide (a2 ≥ 1)) (brc (Option.isSome (civil_Len.f a0 a1)) (∀ (m0 : Int), m0 = gd (civil_Len.f a0 a1) → K (AV.bool (decide (a2 ≤ m0)))) False) (K (AV.bool false))) (K (AV.bool false))) (K (AV.bool false))) := by kernel_rfl
set_option maxHeartbeats 1000000 in
set_option maxRecDepth 100000 in
theorem civil_Right.calls (a0 : Int) (a1 : Int) (a2 : Int) (r : Bool) (w : World) (h : civil_Right.f a0 a1 a2 = some r) :
    Calls Try.prog 54 #[.int .i64 a0, .int .i64 a1, .int .i64 a2] w fun e w' => e = .returned (.bool r) ∧ Below w.heap.size w w' := by
  refine calls_of_vc (A := [.int .i64 a0, .int .i64 a1, .int .i64 a2]) (v := .bool r) (tab_cons (civil_Len.cok) (tab_nil)) ((civil_Right.vc a0 a1 a2 _).mpr ?_) (by simp [rl_cons, rl_nil, rv_int, rv_bool, rv_str, rv_agg, rv_fn]) (fun ρ V' hV => by simpa [rl_cons, rl_nil, rv_int, rv_bool, rv_str, rv_agg, rv_tup] using hV)
  unfold civil_Right.f at h
  simp only [bne, Option.bind_eq_some_iff, ite_some_iff] at h
  simp only [bne, brc_iff, wrap_i64]
  first
    | grind (splits := 60) [gd_some]
    | ((repeat' (first | (have or_ : Or _ _ := h; clear or_; rcases h with h | h) | (have or_ : Exists _ := h; clear or_; obtain ⟨_, h⟩ := h) | (have or_ : And _ _ := h; clear or_; obtain ⟨_, h⟩ := h))) <;> simp only [Option.some.injEq, Prod.mk.injEq, reduceCtorEq] at h <;> (try subst_vars) <;> simp_all [gd_some] <;> (try omega) <;> done)
    | (intros; subst_vars; simp_all [gd_some]; done)
noncomputable def civil_Right.con : Con
  | [.int .i64 a0, .int .i64 a1, .int .i64 a2] => some ((civil_Right.f a0 a1 a2).isSome, .bool (gd (civil_Right.f a0 a1 a2)))
  | _ => none
set_option maxRecDepth 100000 in
theorem civil_Right.cok : COk Try.prog 54 (civil_Right.con) := by
  intro args p v hc hp w A hA
  unfold civil_Right.con at hc
  split at hc
  · rename_i a0 a1 a2
    simp only [Option.some.injEq, Prod.mk.injEq] at hc
    obtain ⟨rfl, rfl⟩ := hc
    rcases hf : civil_Right.f a0 a1 a2 with _ | r
    · rw [hf] at hp; cases hp
    obtain rfl : A = [.int .i64 a0, .int .i64 a1, .int .i64 a2] := by simpa [rl_cons, rl_nil, rv_int, rv_bool, rv_str, rv_agg, rv_fn] using hA
    exact gives_of_calls (fn := Try.f54) Try.func54 (by kernel_rfl) (by kernel_rfl) (civil_Right.calls _ _ _ _ w hf) (fun _ => by simp [gd_some, rl_cons, rl_nil, rv_int, rv_bool, rv_str, rv_agg, rv_tup]) (fun _ h => h)
  · cases hc
def civil_Days.f (a0 : Int) (a1 : Int) (a2 : Int) : Option (Int × Int) := (civil_Right.f a0 a1 a2).bind fun t122 => (if t122 = true then ((civil_day.f a0 a1 a2).bind fun t123 => (some (t123, 0))) else (some (0, 10)))
set_option maxRecDepth 100000 in
theorem civil_Days.vc (a0 : Int) (a1 : Int) (a2 : Int) (K : AV → Prop) : afv PA Try.prog (tab [(54, civil_Right.con), (55, civil_day.con)]) noLoops 2 35 [.int .i64 a0, .int .i64 a1, .int .i64 a2] K = (brc (Option.isSome (civil_Right.f a0 a1 a2)) (∀ (m0 : Bool), m0 = gd (civil_Right.f a0 a1 a2) → brc (!m0) (K (AV.tup [AV.int IntKind.i64 0, AV.int IntKind.i64 10])) (brc (Option.isSome (civil_day.f a0 a1 a2)) (∀ (m1 : Int), m1 = gd (civil_day.f a0 a1 a2) → K (AV.tup [AV.int IntKind.i64 m1, AV.int IntKind.i64 0])) False)) False) := by kernel_rfl
set_option maxHeartbeats 1000000 in
set_option maxRecDepth 100000 in
theorem civil_Days.calls (a0 : Int) (a1 : Int) (a2 : Int) (r1 : Int) (r2 : Int) (w : World) (h : civil_Days.f a0 a1 a2 = some (r1, r2)) :
    Calls Try.prog 35 #[.int .i64 a0, .int .i64 a1, .int .i64 a2] w fun e w' => e = .returned (.tuple #[.int .i64 r1, .int .i64 r2]) ∧ Below w.heap.size w w' := by
  refine calls_of_vc (A := [.int .i64 a0, .int .i64 a1, .int .i64 a2]) (v := .tup [.int .i64 r1, .int .i64 r2]) (tab_cons (civil_Right.cok) (tab_cons (civil_day.cok) (tab_nil))) ((civil_Days.vc a0 a1 a2 _).mpr ?_) (by simp [rl_cons, rl_nil, rv_int, rv_bool, rv_str, rv_agg, rv_fn]) (fun ρ V' hV => by simpa [rl_cons, rl_nil, rv_int, rv_bool, rv_str, rv_agg, rv_tup] using hV)
  unfold civil_Days.f at h
  simp only [bne, Option.bind_eq_some_iff, ite_some_iff] at h
  simp only [bne, brc_iff, wrap_i64]
  first
    | grind (splits := 60) [gd_some]
    | ((repeat' (first | (have or_ : Or _ _ := h; clear or_; rcases h with h | h) | (have or_ : Exists _ := h; clear or_; obtain ⟨_, h⟩ := h) | (have or_ : And _ _ := h; clear or_; obtain ⟨_, h⟩ := h))) <;> simp only [Option.some.injEq, Prod.mk.injEq, reduceCtorEq] at h <;> (try subst_vars) <;> simp_all [gd_some] <;> (try omega) <;> done)
    | (intros; subst_vars; simp_all [gd_some]; done)
noncomputable def civil_Days.con : Con
  | [.int .i64 a0, .int .i64 a1, .int .i64 a2] => some ((civil_Days.f a0 a1 a2).isSome, .tup [.int .i64 (gd (civil_Days.f a0 a1 a2)).1, .int .i64 (gd (civil_Days.f a0 a1 a2)).2])
  | _ => none
set_option maxRecDepth 100000 in
theorem civil_Days.cok : COk Try.prog 35 (civil_Days.con) := by
  intro args p v hc hp w A hA
  unfold civil_Days.con at hc
  split at hc
  · rename_i a0 a1 a2
    simp only [Option.some.injEq, Prod.mk.injEq] at hc
    obtain ⟨rfl, rfl⟩ := hc
    rcases hf : civil_Days.f a0 a1 a2 with _ | ⟨r1, r2⟩
    · rw [hf] at hp; cases hp
    obtain rfl : A = [.int .i64 a0, .int .i64 a1, .int .i64 a2] := by simpa [rl_cons, rl_nil, rv_int, rv_bool, rv_str, rv_agg, rv_fn] using hA
    exact gives_of_calls (fn := Try.f35) Try.func35 (by kernel_rfl) (by kernel_rfl) (civil_Days.calls _ _ _ _ _ w hf) (fun _ => by simp [gd_some, rl_cons, rl_nil, rv_int, rv_bool, rv_str, rv_agg, rv_tup]) (fun _ h => h)
  · cases hc
def day_Make.f (a0 : Int) (a1 : Int) (a2 : Int) : Option (Int × Int × Int) := (civil_Days.f a0 a1 a2).bind fun bt125 => ((day_finite.f bt125.1 bt125.2).bind fun bt127 => (some (bt127.1, bt127.2.1, bt127.2.2)))
set_option maxRecDepth 100000 in
theorem day_Make.vc (a0 : Int) (a1 : Int) (a2 : Int) (K : AV → Prop) : afv PA Try.prog (tab [(34, day_finite.con), (35, civil_Days.con)]) noLoops 2 9 [.int .i64 a0, .int .i64 a1, .int .i64 a2] K = (brc (Option.isSome (civil_Days.f a0 a1 a2)) (∀ (m0 : Int), m0 = Prod.fst (gd (civil_Days.f a0 a1 a2)) → ∀ (m1 : Int), m1 = Prod.snd (gd (civil_Days.f a0 a1 a2)) → brc (Option.isSome (day_finite.f m0 m1)) (∀ (m2 : Int), m2 = Prod.fst (gd (day_finite.f m0 m1)) → ∀ (m3 : Int), m3 = Prod.fst (Prod.snd (gd (day_finite.f m0 m1))) → ∀ (m4 : Int), m4 = Prod.snd (Prod.snd (gd (day_finite.f m0 m1))) → K (AV.tup [AV.agg [AV.int IntKind.i64 m2, AV.int IntKind.i64 m3], AV.int IntKind.i64 m4])) False) False) := by kernel_rfl
set_option maxHeartbeats 1000000 in
set_option maxRecDepth 100000 in
theorem day_Make.calls (a0 : Int) (a1 : Int) (a2 : Int) (r1 : Int) (r2 : Int) (r3 : Int) (w : World) (h : day_Make.f a0 a1 a2 = some (r1, r2, r3)) :
    Calls Try.prog 9 #[.int .i64 a0, .int .i64 a1, .int .i64 a2] w fun e w' => e = .returned (.tuple #[.agg #[.int .i64 r1, .int .i64 r2], .int .i64 r3]) ∧ Below w.heap.size w w' := by
  refine calls_of_vc (A := [.int .i64 a0, .int .i64 a1, .int .i64 a2]) (v := .tup [.agg [.int .i64 r1, .int .i64 r2], .int .i64 r3]) (tab_cons (day_finite.cok) (tab_cons (civil_Days.cok) (tab_nil))) ((day_Make.vc a0 a1 a2 _).mpr ?_) (by simp [rl_cons, rl_nil, rv_int, rv_bool, rv_str, rv_agg, rv_fn]) (fun ρ V' hV => by simpa [rl_cons, rl_nil, rv_int, rv_bool, rv_str, rv_agg, rv_tup] using hV)
  unfold day_Make.f at h
  simp only [bne, Option.bind_eq_some_iff, ite_some_iff] at h
  simp only [bne, brc_iff, wrap_i64]
  first
    | grind (splits := 60) [gd_some]
    | ((repeat' (first | (have or_ : Or _ _ := h; clear or_; rcases h with h | h) | (have or_ : Exists _ := h; clear or_; obtain ⟨_, h⟩ := h) | (have or_ : And _ _ := h; clear or_; obtain ⟨_, h⟩ := h))) <;> simp only [Option.some.injEq, Prod.mk.injEq, reduceCtorEq] at h <;> (try subst_vars) <;> simp_all [gd_some] <;> (try omega) <;> done)
    | (intros; subst_vars; simp_all [gd_some]; done)
noncomputable def day_Make.con : Con
  | [.int .i64 a0, .int .i64 a1, .int .i64 a2] => some ((day_Make.f a0 a1 a2).isSome, .tup [.agg [.int .i64 (gd (day_Make.f a0 a1 a2)).1, .int .i64 (gd (day_Make.f a0 a1 a2)).2.1], .int .i64 (gd (day_Make.f a0 a1 a2)).2.2])
  | _ => none
set_option maxRecDepth 100000 in
theorem day_Make.cok : COk Try.prog 9 (day_Make.con) := by
  intro args p v hc hp w A hA
  unfold day_Make.con at hc
  split at hc
  · rename_i a0 a1 a2
    simp only [Option.some.injEq, Prod.mk.injEq] at hc
    obtain ⟨rfl, rfl⟩ := hc
    rcases hf : day_Make.f a0 a1 a2 with _ | ⟨r1, r2, r3⟩
    · rw [hf] at hp; cases hp
    obtain rfl : A = [.int .i64 a0, .int .i64 a1, .int .i64 a2] := by simpa [rl_cons, rl_nil, rv_int, rv_bool, rv_str, rv_agg, rv_fn] using hA
    exact gives_of_calls (fn := Try.f9) Try.func9 (by kernel_rfl) (by kernel_rfl) (day_Make.calls _ _ _ _ _ _ w hf) (fun _ => by simp [gd_some, rl_cons, rl_nil, rv_int, rv_bool, rv_str, rv_agg, rv_tup]) (fun _ h => h)
  · cases hc
end Go.Proofs.Ytgjbdojpncmmlaa.P
namespace Go.Proofs.Ytgjbdojpncmmlaa.P
open Go.RowKit Go.Proofs.YtgjbdojpncmmlaaW.PrintWords Go.Proofs.YtgjbdojpncmmlaaW.PrintLast Go.Proofs.YtgjbdojpncmmlaaW.PrintMore
open Go.Proofs.Ytgjbdojpncmmlaa.A
attribute [local go_sem] max2_int min2_int max_two min_two max_three min_three max_four min_four   -- for this text's walks alone
set_option linter.unusedVariables false
set_option linter.unusedSimpArgs false
def computusref02_mod.f (a0 : Int) (a1 : Int) : Option (Int) := if a1 = 0 then (none) else (if (Int.tmod a0 a1) < 0 then (some (wrap64 ((Int.tmod a0 a1) + a1))) else (some (Int.tmod a0 a1)))
set_option maxHeartbeats 8000000 in
set_option maxRecDepth 100000 in
theorem computusref02_mod.calls (a0 : Int) (a1 : Int) (r : Int) (w : World) (h : computusref02_mod.f a0 a1 = some r) :
    Calls Try.prog 62 #[.int .i64 a0, .int .i64 a1] w fun e w' => e = .returned (.int .i64 r) ∧ Drawn0 w w' := by
  have H : (if a1 = 0 then (none) else (if (Int.tmod a0 a1) < 0 then (some (wrap64 ((Int.tmod a0 a1) + a1))) else (some (Int.tmod a0 a1)))) = some r := h
  clear h
  by_cases c3 : a1 = 0
  · rw [if_pos c3] at H
    exact absurd H (by simp)
  · rw [if_neg c3] at H
    have c3b0 : (a1 == 0) = false := beq_eq_false_iff_ne.mpr c3
    have c3b1 : (a1 != 0) = true := bne_iff_ne.mpr c3
    by_cases c4 : (Int.tmod a0 a1) < 0
    · rw [if_pos c4] at H
      have c4b0 : decide ((Int.tmod a0 a1) < 0) = true := decide_eq_true c4
      clear c4
      obtain rfl := Option.some.inj H
      go_enter Try.func62, Try.ntmps62
      go_wp2
      go_ret
      exact ⟨by first | rfl | (simp; done) | (simp [*]; done), by repeat (first | exact Drawn0.refl _ | apply Drawn0.step)⟩
    · rw [if_neg c4] at H
      have c4b0 : decide ((Int.tmod a0 a1) < 0) = false := decide_eq_false c4
      clear c4
      obtain rfl := Option.some.inj H
      go_enter Try.func62, Try.ntmps62
      go_wp2
      go_ret
      exact ⟨by first | rfl | (simp; done) | (simp [*]; done), by repeat (first | exact Drawn0.refl _ | apply Drawn0.step)⟩
def computusref02_Leap.f (a0 : Int) : Option (Bool) := (computusref02_mod.f a0 4).bind fun t130 => (if t130 = 0 then ((computusref02_mod.f a0 100).bind fun t131 => (if t131 = 0 then ((computusref02_mod.f a0 400).bind fun t132 => (some (t132 == 0))) else (some true))) else (some false))
set_option maxHeartbeats 8000000 in
set_option maxRecDepth 100000 in
theorem computusref02_Leap.calls (a0 : Int) (r : Bool) (w : World) (h : computusref02_Leap.f a0 = some r) :
    Calls Try.prog 63 #[.int .i64 a0] w fun e w' => e = .returned (.bool r) ∧ Drawn0 w w' := by
  have H : ((computusref02_mod.f a0 4).bind fun t130 => (if t130 = 0 then ((computusref02_mod.f a0 100).bind fun t131 => (if t131 = 0 then ((computusref02_mod.f a0 400).bind fun t132 => (some (t132 == 0))) else (some true))) else (some false))) = some r := h
  clear h
  replace H := Option.bind_eq_some_iff.mp H
  obtain ⟨t130, A20, H⟩ := H
  replace H : (if t130 = 0 then ((computusref02_mod.f a0 100).bind fun t131 => (if t131 = 0 then ((computusref02_mod.f a0 400).bind fun t132 => (some (t132 == 0))) else (some true))) else (some false)) = some r := H
  have A2 := Aside0.mk A20
  clear A20
  by_cases c3 : t130 = 0
  · rw [if_pos c3] at H
    have c3b0 : (t130 == 0) = true := beq_iff_eq.mpr c3
    have c3b1 : (t130 != 0) = false := bne_eq_false_iff_eq.mpr c3
    clear c3
    replace H := Option.bind_eq_some_iff.mp H
    obtain ⟨t131, A40, H⟩ := H
    replace H : (if t131 = 0 then ((computusref02_mod.f a0 400).bind fun t132 => (some (t132 == 0))) else (some true)) = some r := H
    have A4 := Aside0.mk A40
    clear A40
    by_cases c5 : t131 = 0
    · rw [if_pos c5] at H
      have c5b0 : (t131 == 0) = true := beq_iff_eq.mpr c5
      have c5b1 : (t131 != 0) = false := bne_eq_false_iff_eq.mpr c5
      clear c5
      replace H := Option.bind_eq_some_iff.mp H
      obtain ⟨t132, A60, H⟩ := H
      replace H : (some (t132 == 0)) = some r := H
      have A6 := Aside0.mk A60
      clear A60
      obtain rfl := Option.some.inj H
      go_enter Try.func63, Try.ntmps63
      go_wp2_with (first | ((with_reducible refine kL (f := 62) rfl ?_); refine goesL_ (some 4) rfl rfl Try.func62 (by kernel_rfl) rfl #[.int .i64 a0, .int .i64 4] rfl (by (try simp only [List.map_toArray, List.map_cons, List.map_nil]); first | done | rfl | (simp only [List.length_drop, List.length_take]; rfl)) ?_; (with_reducible refine (computusref02_mod.calls a0 4 t130 _ A2.out).mono ?_); rintro e w' ⟨rfl, ⟨nd, rfl⟩⟩; refine ⟨_, rfl, ?_⟩) | (go_at_call 62; (with_reducible refine (computusref02_mod.calls a0 100 t131 _ A4.out).mono ?_); rintro e w' ⟨rfl, ⟨nd, rfl⟩⟩) | (go_at_call 62; (with_reducible refine (computusref02_mod.calls a0 400 t132 _ A6.out).mono ?_); rintro e w' ⟨rfl, ⟨nd, rfl⟩⟩))
      go_ret
      exact ⟨by first | rfl | (simp; done) | (simp [*]; done), by repeat (first | exact Drawn0.refl _ | apply Drawn0.step)⟩
    · rw [if_neg c5] at H
      have c5b0 : (t131 == 0) = false := beq_eq_false_iff_ne.mpr c5
      have c5b1 : (t131 != 0) = true := bne_iff_ne.mpr c5
      obtain rfl := Option.some.inj H
      go_enter Try.func63, Try.ntmps63
      go_wp2_with (first | ((with_reducible refine kL (f := 62) rfl ?_); refine goesL_ (some 4) rfl rfl Try.func62 (by kernel_rfl) rfl #[.int .i64 a0, .int .i64 4] rfl (by (try simp only [List.map_toArray, List.map_cons, List.map_nil]); first | done | rfl | (simp only [List.length_drop, List.length_take]; rfl)) ?_; (with_reducible refine (computusref02_mod.calls a0 4 t130 _ A2.out).mono ?_); rintro e w' ⟨rfl, ⟨nd, rfl⟩⟩; refine ⟨_, rfl, ?_⟩) | (go_at_call 62; (with_reducible refine (computusref02_mod.calls a0 100 t131 _ A4.out).mono ?_); rintro e w' ⟨rfl, ⟨nd, rfl⟩⟩))
      go_ret
      exact ⟨by first | rfl | (simp; done) | (simp [*]; done), by repeat (first | exact Drawn0.refl _ | apply Drawn0.step)⟩
  · rw [if_neg c3] at H
    have c3b0 : (t130 == 0) = false := beq_eq_false_iff_ne.mpr c3
    have c3b1 : (t130 != 0) = true := bne_iff_ne.mpr c3
    obtain rfl := Option.some.inj H
    go_enter Try.func63, Try.ntmps63
    go_wp2_with (first | ((with_reducible refine kL (f := 62) rfl ?_); refine goesL_ (some 4) rfl rfl Try.func62 (by kernel_rfl) rfl #[.int .i64 a0, .int .i64 4] rfl (by (try simp only [List.map_toArray, List.map_cons, List.map_nil]); first | done | rfl | (simp only [List.length_drop, List.length_take]; rfl)) ?_; (with_reducible refine (computusref02_mod.calls a0 4 t130 _ A2.out).mono ?_); rintro e w' ⟨rfl, ⟨nd, rfl⟩⟩; refine ⟨_, rfl, ?_⟩))
    go_ret
    exact ⟨by first | rfl | (simp; done) | (simp [*]; done), by repeat (first | exact Drawn0.refl _ | apply Drawn0.step)⟩
end Go.Proofs.Ytgjbdojpncmmlaa.P
namespace Go.Proofs.Ytgjbdojpncmmlaa.P
open Go.RowKit Go.Proofs.YtgjbdojpncmmlaaW.PrintWords Go.Proofs.YtgjbdojpncmmlaaW.PrintLast Go.Proofs.YtgjbdojpncmmlaaW.PrintMore
open Go.Proofs.Ytgjbdojpncmmlaa.A
attribute [local go_sem] max2_int min2_int max_two min_two max_three min_three max_four min_four   -- for this text's walks alone
set_option linter.unusedVariables false
set_option linter.unusedSimpArgs false
mutual
def computusref02_Len.j0 : Nat → Int → Int → Bool → Option (Int)
  | 0, _, _, _ => none
  | k + 1, x0, x5, x6 => if x6 = true then (some 31) else (if x5 = 4 then (computusref02_Len.j1 k x0 x5 (x5 == 4)) else (if x5 = 6 then (computusref02_Len.j1 k x0 x5 (x5 == 6)) else (if x5 = 9 then (computusref02_Len.j1 k x0 x5 (x5 == 9)) else (computusref02_Len.j1 k x0 x5 (x5 == 11)))))
def computusref02_Len.j1 : Nat → Int → Int → Bool → Option (Int)
  | 0, _, _, _ => none
  | k + 1, x0, x5, x14 => if x14 = true then (some 30) else (if x5 = 2 then ((computusref02_Leap.f x0).bind fun t133 => (if t133 = true then (some 29) else (some 28))) else (some 0))
end
def computusref02_Len.f (k : Nat) (a0 : Int) (a1 : Int) : Option (Int) := if a1 = 1 then (computusref02_Len.j0 k a0 a1 (a1 == 1)) else (if a1 = 3 then (computusref02_Len.j0 k a0 a1 (a1 == 3)) else (if a1 = 5 then (computusref02_Len.j0 k a0 a1 (a1 == 5)) else (if a1 = 7 then (computusref02_Len.j0 k a0 a1 (a1 == 7)) else (if a1 = 8 then (computusref02_Len.j0 k a0 a1 (a1 == 8)) else (if a1 = 10 then (computusref02_Len.j0 k a0 a1 (a1 == 10)) else (computusref02_Len.j0 k a0 a1 (a1 == 12)))))))
theorem computusref02_Len.mono_l : ∀ k, (∀ y0 y1 y2, LeO (computusref02_Len.j0 k y0 y1 y2) (computusref02_Len.j0 (k + 1) y0 y1 y2)) ∧ (∀ y0 y1 y2, LeO (computusref02_Len.j1 k y0 y1 y2) (computusref02_Len.j1 (k + 1) y0 y1 y2))
  | 0 => ⟨fun _ _ _ r h => by simp [computusref02_Len.j0] at h, fun _ _ _ r h => by simp [computusref02_Len.j1] at h⟩
  | k + 1 => by
    obtain ⟨ih0, ih1⟩ := computusref02_Len.mono_l k
    refine ⟨?_, ?_⟩
    · intro y0 y1 y2
      unfold computusref02_Len.j0
      repeat' first
      | (with_reducible exact ih0 _ _ _)
      | (with_reducible exact ih1 _ _ _)
      | (with_reducible exact LeO.refl _)
      | (with_reducible exact LeO.none _)
      | (with_reducible refine LeO.ite ?_ ?_)
      | (with_reducible refine LeO.bind ?_ (fun _ => ?_))
      | exact ih0 _ _ _
      | exact ih1 _ _ _
      | exact LeO.none _
      | refine LeO.ite ?_ ?_
      | refine LeO.bind ?_ (fun _ => ?_)
    · intro y0 y1 y2
      unfold computusref02_Len.j1
      repeat' first
      | (with_reducible exact ih0 _ _ _)
      | (with_reducible exact ih1 _ _ _)
      | (with_reducible exact LeO.refl _)
      | (with_reducible exact LeO.none _)
      | (with_reducible refine LeO.ite ?_ ?_)
      | (with_reducible refine LeO.bind ?_ (fun _ => ?_))
      | exact ih0 _ _ _
      | exact ih1 _ _ _
      | exact LeO.none _
      | refine LeO.ite ?_ ?_
      | refine LeO.bind ?_ (fun _ => ?_)
theorem computusref02_Len.mono : ∀ a0 a1 k, LeO (computusref02_Len.f k a0 a1) (computusref02_Len.f (k + 1) a0 a1) := by
  intro a0 a1 k
  obtain ⟨ih0, ih1⟩ := computusref02_Len.mono_l k
  unfold computusref02_Len.f
  repeat' first
      | (with_reducible exact ih0 _ _ _)
      | (with_reducible exact ih1 _ _ _)
      | (with_reducible exact LeO.refl _)
      | (with_reducible exact LeO.none _)
      | (with_reducible refine LeO.ite ?_ ?_)
      | (with_reducible refine LeO.bind ?_ (fun _ => ?_))
      | exact ih0 _ _ _
      | exact ih1 _ _ _
      | exact LeO.none _
      | refine LeO.ite ?_ ?_
      | refine LeO.bind ?_ (fun _ => ?_)
set_option maxHeartbeats 8000000 in
set_option maxRecDepth 100000 in
theorem computusref02_Len.calls (k : Nat) (a0 : Int) (a1 : Int) (r : Int) (w : World) (h : computusref02_Len.f k a0 a1 = some r) :
    Calls Try.prog 64 #[.int .i64 a0, .int .i64 a1] w fun e w' => e = .returned (.int .i64 r) ∧ Drawn0 w w' := by
  have H : (if a1 = 1 then (computusref02_Len.j0 k a0 a1 (a1 == 1)) else (if a1 = 3 then (computusref02_Len.j0 k a0 a1 (a1 == 3)) else (if a1 = 5 then (computusref02_Len.j0 k a0 a1 (a1 == 5)) else (if a1 = 7 then (computusref02_Len.j0 k a0 a1 (a1 == 7)) else (if a1 = 8 then (computusref02_Len.j0 k a0 a1 (a1 == 8)) else (if a1 = 10 then (computusref02_Len.j0 k a0 a1 (a1 == 10)) else (computusref02_Len.j0 k a0 a1 (a1 == 12)))))))) = some r := h
  clear h
  have HC3 := Aside0.mk H
  clear H
  go_enter Try.func64, Try.ntmps64
  go_upto_if 6 with (fail)
  go_cut [6] (fun v6 wc => ∃ (kq : Nat) (x6_2 : Bool), v6 = .bool x6_2 ∧ Aside0 (computusref02_Len.j0 kq a0 a1 x6_2 = some r) ∧ Aside0 (kq ≤ k) ∧ Drawn0 w wc)
  case first =>
    have H := HC3.out
    clear HC3
    by_cases c4 : a1 = 1
    · rw [if_pos c4] at H
      have c4b0 : (a1 == 1) = true := beq_iff_eq.mpr c4
      have c4b1 : (a1 != 1) = false := bne_eq_false_iff_eq.mpr c4
      clear c4
      (first | rw [c4b0] | (simp only [kN, kO]; rw [c4b0]) | skip)
      have H' := Aside0.mk H
      clear H
      go_wp2
      go_meet
      case rel => exact ⟨_, ((a1 == 1)), (by first | rfl | (simp; done) | (simp [*]; done)), H', ⟨by first | omega | exact Nat.le_refl _⟩, by repeat (first | exact Drawn0.refl _ | apply Drawn0.step)⟩
    · rw [if_neg c4] at H
      have c4b0 : (a1 == 1) = false := beq_eq_false_iff_ne.mpr c4
      have c4b1 : (a1 != 1) = true := bne_iff_ne.mpr c4
      (first | rw [c4b0] | (simp only [kN, kO]; rw [c4b0]) | skip)
      by_cases c5 : a1 = 3
      · rw [if_pos c5] at H
        have c5b0 : (a1 == 3) = true := beq_iff_eq.mpr c5
        have c5b1 : (a1 != 3) = false := bne_eq_false_iff_eq.mpr c5
        clear c5
        have H' := Aside0.mk H
        clear H
        go_wp2
        go_meet
        case rel => exact ⟨_, ((a1 == 3)), (by first | rfl | (simp; done) | (simp [*]; done)), H', ⟨by first | omega | exact Nat.le_refl _⟩, by repeat (first | exact Drawn0.refl _ | apply Drawn0.step)⟩
      · rw [if_neg c5] at H
        have c5b0 : (a1 == 3) = false := beq_eq_false_iff_ne.mpr c5
        have c5b1 : (a1 != 3) = true := bne_iff_ne.mpr c5
        by_cases c6 : a1 = 5
        · rw [if_pos c6] at H
          have c6b0 : (a1 == 5) = true := beq_iff_eq.mpr c6
          have c6b1 : (a1 != 5) = false := bne_eq_false_iff_eq.mpr c6
          clear c6
          have H' := Aside0.mk H
          clear H
          go_wp2
          go_meet
          case rel => exact ⟨_, ((a1 == 5)), (by first | rfl | (simp; done) | (simp [*]; done)), H', ⟨by first | omega | exact Nat.le_refl _⟩, by repeat (first | exact Drawn0.refl _ | apply Drawn0.step)⟩
        · rw [if_neg c6] at H
          have c6b0 : (a1 == 5) = false := beq_eq_false_iff_ne.mpr c6
          have c6b1 : (a1 != 5) = true := bne_iff_ne.mpr c6
          by_cases c7 : a1 = 7
          · rw [if_pos c7] at H
            have c7b0 : (a1 == 7) = true := beq_iff_eq.mpr c7
            have c7b1 : (a1 != 7) = false := bne_eq_false_iff_eq.mpr c7
            clear c7
            have H' := Aside0.mk H
            clear H
            go_wp2
            go_meet
            case rel => exact ⟨_, ((a1 == 7)), (by first | rfl | (simp; done) | (simp [*]; done)), H', ⟨by first | omega | exact Nat.le_refl _⟩, by repeat (first | exact Drawn0.refl _ | apply Drawn0.step)⟩
          · rw [if_neg c7] at H
            have c7b0 : (a1 == 7) = false := beq_eq_false_iff_ne.mpr c7
            have c7b1 : (a1 != 7) = true := bne_iff_ne.mpr c7
            by_cases c8 : a1 = 8
            · rw [if_pos c8] at H
              have c8b0 : (a1 == 8) = true := beq_iff_eq.mpr c8
              have c8b1 : (a1 != 8) = false := bne_eq_false_iff_eq.mpr c8
              clear c8
              have H' := Aside0.mk H
              clear H
              go_wp2
              go_meet
              case rel => exact ⟨_, ((a1 == 8)), (by first | rfl | (simp; done) | (simp [*]; done)), H', ⟨by first | omega | exact Nat.le_refl _⟩, by repeat (first | exact Drawn0.refl _ | apply Drawn0.step)⟩
            · rw [if_neg c8] at H
              have c8b0 : (a1 == 8) = false := beq_eq_false_iff_ne.mpr c8
              have c8b1 : (a1 != 8) = true := bne_iff_ne.mpr c8
              by_cases c9 : a1 = 10
              · rw [if_pos c9] at H
                have c9b0 : (a1 == 10) = true := beq_iff_eq.mpr c9
                have c9b1 : (a1 != 10) = false := bne_eq_false_iff_eq.mpr c9
                clear c9
                have H' := Aside0.mk H
                clear H
                go_wp2
                go_meet
                case rel => exact ⟨_, ((a1 == 10)), (by first | rfl | (simp; done) | (simp [*]; done)), H', ⟨by first | omega | exact Nat.le_refl _⟩, by repeat (first | exact Drawn0.refl _ | apply Drawn0.step)⟩
              · rw [if_neg c9] at H
                have c9b0 : (a1 == 10) = false := beq_eq_false_iff_ne.mpr c9
                have c9b1 : (a1 != 10) = true := bne_iff_ne.mpr c9
                have H' := Aside0.mk H
                clear H
                go_wp2
                go_meet
                case rel => exact ⟨_, ((a1 == 12)), (by first | rfl | (simp; done) | (simp [*]; done)), H', ⟨by first | omega | exact Nat.le_refl _⟩, by repeat (first | exact Drawn0.refl _ | apply Drawn0.step)⟩
  case rest =>
    clear HC3
    try clear p2
    try clear c4
    try clear c4b0
    try clear c4b1
    try clear c5
    try clear c5b0
    try clear c5b1
    try clear c6
    try clear c6b0
    try clear c6b1
    try clear c7
    try clear c7b0
    try clear c7b1
    try clear c8
    try clear c8b0
    try clear c8b1
    try clear c9
    try clear c9b0
    try clear c9b1
    obtain ⟨kq, x6_2, rfl, HA, HJ2, ⟨mc2, rfl⟩⟩ := hcut
    cases kq with
    | zero => exact absurd HA.out (by simp [computusref02_Len.j0])
    | succ kj2 =>
      have H := HA.out
      clear HA
      simp only [computusref02_Len.j0] at H
      by_cases c10 : x6_2 = true
      · subst c10
        have H1 : (some 31) = some r := by rw [if_pos rfl] at H; exact H
        clear H
        have H := H1
        clear H1
        obtain rfl := Option.some.inj H
        go_wp2
        go_ret
        exact ⟨by first | rfl | (simp; done) | (simp [*]; done), by repeat (first | exact Drawn0.refl _ | apply Drawn0.step)⟩
      · replace c10 := Bool.eq_false_iff.mpr c10
        subst c10
        have H1 : (if a1 = 4 then (computusref02_Len.j1 kj2 a0 a1 (a1 == 4)) else (if a1 = 6 then (computusref02_Len.j1 kj2 a0 a1 (a1 == 6)) else (if a1 = 9 then (computusref02_Len.j1 kj2 a0 a1 (a1 == 9)) else (computusref02_Len.j1 kj2 a0 a1 (a1 == 11))))) = some r := by rw [if_neg (show ¬ (false = true) by decide)] at H; exact H
        clear H
        have H := H1
        clear H1
        have HC11 := Aside0.mk H
        clear H
        go_upto_if 14 with (fail)
        go_cut [14] (fun v14 wc => ∃ (kq : Nat) (x14_10 : Bool), v14 = .bool x14_10 ∧ Aside0 (computusref02_Len.j1 kq a0 a1 x14_10 = some r) ∧ Aside0 (kq ≤ kj2) ∧ Drawn0 w wc)
        case first =>
          have H := HC11.out
          clear HC11
          by_cases c12 : a1 = 4
          · rw [if_pos c12] at H
            have c12b0 : (a1 == 4) = true := beq_iff_eq.mpr c12
            have c12b1 : (a1 != 4) = false := bne_eq_false_iff_eq.mpr c12
            clear c12
            (first | rw [c12b0] | (simp only [kN, kO]; rw [c12b0]) | skip)
            have H' := Aside0.mk H
            clear H
            go_wp2
            go_meet
            case rel => exact ⟨_, ((a1 == 4)), (by first | rfl | (simp; done) | (simp [*]; done)), H', ⟨by have := HJ2.out; first | omega | exact Nat.le_refl _⟩, by repeat (first | exact Drawn0.refl _ | apply Drawn0.step)⟩
          · rw [if_neg c12] at H
            have c12b0 : (a1 == 4) = false := beq_eq_false_iff_ne.mpr c12
            have c12b1 : (a1 != 4) = true := bne_iff_ne.mpr c12
            (first | rw [c12b0] | (simp only [kN, kO]; rw [c12b0]) | skip)
            by_cases c13 : a1 = 6
            · rw [if_pos c13] at H
              have c13b0 : (a1 == 6) = true := beq_iff_eq.mpr c13
              have c13b1 : (a1 != 6) = false := bne_eq_false_iff_eq.mpr c13
              clear c13
              have H' := Aside0.mk H
              clear H
              go_wp2
              go_meet
              case rel => exact ⟨_, ((a1 == 6)), (by first | rfl | (simp; done) | (simp [*]; done)), H', ⟨by have := HJ2.out; first | omega | exact Nat.le_refl _⟩, by repeat (first | exact Drawn0.refl _ | apply Drawn0.step)⟩
            · rw [if_neg c13] at H
              have c13b0 : (a1 == 6) = false := beq_eq_false_iff_ne.mpr c13
              have c13b1 : (a1 != 6) = true := bne_iff_ne.mpr c13
              by_cases c14 : a1 = 9
              · rw [if_pos c14] at H
                have c14b0 : (a1 == 9) = true := beq_iff_eq.mpr c14
                have c14b1 : (a1 != 9) = false := bne_eq_false_iff_eq.mpr c14
                clear c14
                have H' := Aside0.mk H
                clear H
                go_wp2
                go_meet
                case rel => exact ⟨_, ((a1 == 9)), (by first | rfl | (simp; done) | (simp [*]; done)), H', ⟨by have := HJ2.out; first | omega | exact Nat.le_refl _⟩, by repeat (first | exact Drawn0.refl _ | apply Drawn0.step)⟩
              · rw [if_neg c14] at H
                have c14b0 : (a1 == 9) = false := beq_eq_false_iff_ne.mpr c14
                have c14b1 : (a1 != 9) = true := bne_iff_ne.mpr c14
                have H' := Aside0.mk H
                clear H
                go_wp2
                go_meet
                case rel => exact ⟨_, ((a1 == 11)), (by first | rfl | (simp; done) | (simp [*]; done)), H', ⟨by have := HJ2.out; first | omega | exact Nat.le_refl _⟩, by repeat (first | exact Drawn0.refl _ | apply Drawn0.step)⟩
        case rest =>
          clear HC11
          try clear c1
          try clear c2
          try clear p2
          try clear c4
          try clear c4b0
          try clear c4b1
          try clear c5
          try clear c5b0
          try clear c5b1
          try clear c6
          try clear c6b0
          try clear c6b1
          try clear c7
          try clear c7b0
          try clear c7b1
          try clear c8
          try clear c8b0
          try clear c8b1
          try clear c9
          try clear c9b0
          try clear c9b1
          try clear c10
          try clear c12
          try clear c12b0
          try clear c12b1
          try clear c13
          try clear c13b0
          try clear c13b1
          try clear c14
          try clear c14b0
          try clear c14b1
          try clear p2
          obtain ⟨kq, x14_10, rfl, HA, HJ10, ⟨mc10, rfl⟩⟩ := hcut
          cases kq with
          | zero => exact absurd HA.out (by simp [computusref02_Len.j1])
          | succ kj10 =>
            have H := HA.out
            clear HA
            simp only [computusref02_Len.j1] at H
            by_cases c15 : x14_10 = true
            · subst c15
              have H1 : (some 30) = some r := by rw [if_pos rfl] at H; exact H
              clear H
              have H := H1
              clear H1
              obtain rfl := Option.some.inj H
              go_wp2
              go_ret
              exact ⟨by first | rfl | (simp; done) | (simp [*]; done), by repeat (first | exact Drawn0.refl _ | apply Drawn0.step)⟩
            · replace c15 := Bool.eq_false_iff.mpr c15
              subst c15
              have H1 : (if a1 = 2 then ((computusref02_Leap.f a0).bind fun t133 => (if t133 = true then (some 29) else (some 28))) else (some 0)) = some r := by rw [if_neg (show ¬ (false = true) by decide)] at H; exact H
              clear H
              have H := H1
              clear H1
              by_cases c16 : a1 = 2
              · rw [if_pos c16] at H
                have c16b0 : (a1 == 2) = true := beq_iff_eq.mpr c16
                have c16b1 : (a1 != 2) = false := bne_eq_false_iff_eq.mpr c16
                clear c16
                replace H := Option.bind_eq_some_iff.mp H
                obtain ⟨t133, A170, H⟩ := H
                replace H : (if t133 = true then (some 29) else (some 28)) = some r := H
                have A17 := Aside0.mk A170
                clear A170
                by_cases c18 : t133 = true
                · subst c18
                  have H1 : (some 29) = some r := by rw [if_pos rfl] at H; exact H
                  clear H
                  have H := H1
                  clear H1
                  obtain rfl := Option.some.inj H
                  go_wp2_with (first | ((with_reducible refine kL (f := 63) rfl ?_); refine goesL_ (some 22) rfl rfl Try.func63 (by kernel_rfl) rfl #[.int .i64 a0] rfl (by (try simp only [List.map_toArray, List.map_cons, List.map_nil]); first | done | rfl | (simp only [List.length_drop, List.length_take]; rfl)) ?_; (with_reducible refine (computusref02_Leap.calls a0 true _ A17.out).mono ?_); rintro e w' ⟨rfl, ⟨nd, rfl⟩⟩; refine ⟨_, rfl, ?_⟩))
                  go_ret
                  exact ⟨by first | rfl | (simp; done) | (simp [*]; done), by repeat (first | exact Drawn0.refl _ | apply Drawn0.step)⟩
                · replace c18 := Bool.eq_false_iff.mpr c18
                  subst c18
                  have H1 : (some 28) = some r := by rw [if_neg (show ¬ (false = true) by decide)] at H; exact H
                  clear H
                  have H := H1
                  clear H1
                  obtain rfl := Option.some.inj H
                  go_wp2_with (first | ((with_reducible refine kL (f := 63) rfl ?_); refine goesL_ (some 22) rfl rfl Try.func63 (by kernel_rfl) rfl #[.int .i64 a0] rfl (by (try simp only [List.map_toArray, List.map_cons, List.map_nil]); first | done | rfl | (simp only [List.length_drop, List.length_take]; rfl)) ?_; (with_reducible refine (computusref02_Leap.calls a0 false _ A17.out).mono ?_); rintro e w' ⟨rfl, ⟨nd, rfl⟩⟩; refine ⟨_, rfl, ?_⟩))
                  go_ret
                  exact ⟨by first | rfl | (simp; done) | (simp [*]; done), by repeat (first | exact Drawn0.refl _ | apply Drawn0.step)⟩
              · rw [if_neg c16] at H
                have c16b0 : (a1 == 2) = false := beq_eq_false_iff_ne.mpr c16
                have c16b1 : (a1 != 2) = true := bne_iff_ne.mpr c16
                obtain rfl := Option.some.inj H
                go_wp2
                go_ret
                exact ⟨by first | rfl | (simp; done) | (simp [*]; done), by repeat (first | exact Drawn0.refl _ | apply Drawn0.step)⟩
end Go.Proofs.Ytgjbdojpncmmlaa.P
namespace Go.Proofs.Ytgjbdojpncmmlaa.P
open Go.RowKit Go.Proofs.YtgjbdojpncmmlaaW.PrintWords Go.Proofs.YtgjbdojpncmmlaaW.PrintLast Go.Proofs.YtgjbdojpncmmlaaW.PrintMore
open Go.Proofs.Ytgjbdojpncmmlaa.A
attribute [local go_sem] max2_int min2_int max_two min_two max_three min_three max_four min_four   -- for this text's walks alone
set_option linter.unusedVariables false
set_option linter.unusedSimpArgs false
def computusref02_div.f (a0 : Int) (a1 : Int) : Option (Int) := if a1 = 0 then (none) else (if (Int.tmod a0 a1) < 0 then (some (wrap64 ((wrap64 (Int.tdiv a0 a1)) - 1))) else (some (wrap64 (Int.tdiv a0 a1))))
set_option maxHeartbeats 8000000 in
set_option maxRecDepth 100000 in
theorem computusref02_div.calls (a0 : Int) (a1 : Int) (r : Int) (w : World) (h : computusref02_div.f a0 a1 = some r) :
    Calls Try.prog 61 #[.int .i64 a0, .int .i64 a1] w fun e w' => e = .returned (.int .i64 r) ∧ Drawn0 w w' := by
  have H : (if a1 = 0 then (none) else (if (Int.tmod a0 a1) < 0 then (some (wrap64 ((wrap64 (Int.tdiv a0 a1)) - 1))) else (some (wrap64 (Int.tdiv a0 a1))))) = some r := h
  clear h
  by_cases c3 : a1 = 0
  · rw [if_pos c3] at H
    exact absurd H (by simp)
  · rw [if_neg c3] at H
    have c3b0 : (a1 == 0) = false := beq_eq_false_iff_ne.mpr c3
    have c3b1 : (a1 != 0) = true := bne_iff_ne.mpr c3
    by_cases c4 : (Int.tmod a0 a1) < 0
    · rw [if_pos c4] at H
      have c4b0 : decide ((Int.tmod a0 a1) < 0) = true := decide_eq_true c4
      clear c4
      obtain rfl := Option.some.inj H
      go_enter Try.func61, Try.ntmps61
      go_wp2
      go_ret
      exact ⟨by first | rfl | (simp; done) | (simp [*]; done), by repeat (first | exact Drawn0.refl _ | apply Drawn0.step)⟩
    · rw [if_neg c4] at H
      have c4b0 : decide ((Int.tmod a0 a1) < 0) = false := decide_eq_false c4
      clear c4
      obtain rfl := Option.some.inj H
      go_enter Try.func61, Try.ntmps61
      go_wp2
      go_ret
      exact ⟨by first | rfl | (simp; done) | (simp [*]; done), by repeat (first | exact Drawn0.refl _ | apply Drawn0.step)⟩
def computusref02_start.l0 : Nat → Int → Int → Int → Option (Int)
  | 0, _, _, _ => none
  | k + 1, x0, x3, x4 => (computusref02_mod.f (wrap64 (x0 - 2000)) 400).bind fun t136 => (if x4 < t136 then ((computusref02_Leap.f (wrap64 (2000 + x4))).bind fun t137 => (if t137 = true then (computusref02_start.l0 k x0 (wrap64 ((wrap64 (x3 + 365)) + 1)) (wrap64 (x4 + 1))) else (computusref02_start.l0 k x0 (wrap64 (x3 + 365)) (wrap64 (x4 + 1))))) else (some x3))
def computusref02_start.f (k : Nat) (a0 : Int) : Option (Int) := (computusref02_div.f (wrap64 (a0 - 2000)) 400).bind fun t135 => (computusref02_start.l0 k a0 (wrap64 (t135 * 146097)) 0)
theorem computusref02_start.mono_l : ∀ k, (∀ y0 y1 y2, LeO (computusref02_start.l0 k y0 y1 y2) (computusref02_start.l0 (k + 1) y0 y1 y2))
  | 0 => fun _ _ _ r h => by simp [computusref02_start.l0] at h
  | k + 1 => by
    have ih0 := computusref02_start.mono_l k
    · intro y0 y1 y2
      unfold computusref02_start.l0
      repeat' first
      | (with_reducible exact ih0 _ _ _)
      | (with_reducible exact LeO.refl _)
      | (with_reducible exact LeO.none _)
      | (with_reducible refine LeO.ite ?_ ?_)
      | (with_reducible refine LeO.bind ?_ (fun _ => ?_))
      | exact ih0 _ _ _
      | exact LeO.none _
      | refine LeO.ite ?_ ?_
      | refine LeO.bind ?_ (fun _ => ?_)
theorem computusref02_start.mono : ∀ a0 k, LeO (computusref02_start.f k a0) (computusref02_start.f (k + 1) a0) := by
  intro a0 k
  have ih0 := computusref02_start.mono_l k
  unfold computusref02_start.f
  repeat' first
      | (with_reducible exact ih0 _ _ _)
      | (with_reducible exact LeO.refl _)
      | (with_reducible exact LeO.none _)
      | (with_reducible refine LeO.ite ?_ ?_)
      | (with_reducible refine LeO.bind ?_ (fun _ => ?_))
      | exact ih0 _ _ _
      | exact LeO.none _
      | refine LeO.ite ?_ ?_
      | refine LeO.bind ?_ (fun _ => ?_)
set_option maxHeartbeats 8000000 in
set_option maxRecDepth 100000 in
theorem computusref02_start.calls (k : Nat) (a0 : Int) (r : Int) (w : World) (h : computusref02_start.f k a0 = some r) :
    Calls Try.prog 78 #[.int .i64 a0] w fun e w' => e = .returned (.int .i64 r) ∧ Drawn0 w w' := by
  have H : ((computusref02_div.f (wrap64 (a0 - 2000)) 400).bind fun t135 => (computusref02_start.l0 k a0 (wrap64 (t135 * 146097)) 0)) = some r := h
  clear h
  replace H := Option.bind_eq_some_iff.mp H
  obtain ⟨t135, A20, H⟩ := H
  replace H : (computusref02_start.l0 k a0 (wrap64 (t135 * 146097)) 0) = some r := H
  have A2 := Aside0.mk A20
  clear A20
  have H' := Aside0.mk H
  clear H
  go_enter Try.func78, Try.ntmps78
  go_wp2_with (first | ((with_reducible refine kL (f := 61) rfl ?_); refine goesL_ (some 7) rfl rfl Try.func61 (by kernel_rfl) rfl #[.int .i64 (wrap64 (a0 - 2000)), .int .i64 400] rfl (by (try simp only [List.map_toArray, List.map_cons, List.map_nil]); first | done | rfl | (simp only [List.length_drop, List.length_take]; rfl)) ?_; (with_reducible refine (computusref02_div.calls (wrap64 (a0 - 2000)) 400 t135 _ A2.out).mono ?_); rintro e w' ⟨rfl, ⟨nd, rfl⟩⟩; refine ⟨_, rfl, ?_⟩))
  go_loopg [3, 4] k (fun kq v3 v4 w' => ∃ (x3_1 : Int) (x4_1 : Int), v3 = .int .i64 x3_1 ∧ v4 = .int .i64 x4_1 ∧ Aside0 (computusref02_start.l0 kq a0 x3_1 x4_1 = some r) ∧ Aside0 (kq ≤ k) ∧ Drawn0 w w')
  case atStart => exact ⟨(wrap64 (t135 * 146097)), (0), (by first | rfl | (simp; done) | (simp [*]; done)), (by first | rfl | (simp; done) | (simp [*]; done)), H', ⟨Nat.le_refl _⟩, by repeat (first | exact Drawn0.refl _ | apply Drawn0.step)⟩
  case round =>
    clear H'
    try clear p2
    obtain ⟨x3_1, x4_1, rfl, rfl, HA, HK1, ⟨m1, rfl⟩⟩ := hrel
    cases gk with
    | zero => exact absurd HA.out (by simp [computusref02_start.l0])
    | succ k1 =>
      have H := HA.out
      clear HA
      simp only [computusref02_start.l0] at H
      replace H := Option.bind_eq_some_iff.mp H
      obtain ⟨t136, A30, H⟩ := H
      replace H : (if x4_1 < t136 then ((computusref02_Leap.f (wrap64 (2000 + x4_1))).bind fun t137 => (if t137 = true then (computusref02_start.l0 k1 a0 (wrap64 ((wrap64 (x3_1 + 365)) + 1)) (wrap64 (x4_1 + 1))) else (computusref02_start.l0 k1 a0 (wrap64 (x3_1 + 365)) (wrap64 (x4_1 + 1))))) else (some x3_1)) = some r := H
      have A3 := Aside0.mk A30
      clear A30
      by_cases c4 : x4_1 < t136
      · rw [if_pos c4] at H
        have c4b0 : decide (x4_1 < t136) = true := decide_eq_true c4
        clear c4
        replace H := Option.bind_eq_some_iff.mp H
        obtain ⟨t137, A50, H⟩ := H
        replace H : (if t137 = true then (computusref02_start.l0 k1 a0 (wrap64 ((wrap64 (x3_1 + 365)) + 1)) (wrap64 (x4_1 + 1))) else (computusref02_start.l0 k1 a0 (wrap64 (x3_1 + 365)) (wrap64 (x4_1 + 1)))) = some r := H
        have A5 := Aside0.mk A50
        clear A50
        by_cases c6 : t137 = true
        · subst c6
          have H1 : (computusref02_start.l0 k1 a0 (wrap64 ((wrap64 (x3_1 + 365)) + 1)) (wrap64 (x4_1 + 1))) = some r := by rw [if_pos rfl] at H; exact H
          clear H
          have H := H1
          clear H1
          have H' := Aside0.mk H
          clear H
          go_wp2_with (first | ((with_reducible refine kL (f := 62) rfl ?_); refine goesL_ (some 12) rfl rfl Try.func62 (by kernel_rfl) rfl #[.int .i64 (wrap64 (a0 - 2000)), .int .i64 400] rfl (by (try simp only [List.map_toArray, List.map_cons, List.map_nil]); first | done | rfl | (simp only [List.length_drop, List.length_take]; rfl)) ?_; (with_reducible refine (computusref02_mod.calls (wrap64 (a0 - 2000)) 400 t136 _ A3.out).mono ?_); rintro e w' ⟨rfl, ⟨nd, rfl⟩⟩; refine ⟨_, rfl, ?_⟩) | ((with_reducible refine kL (f := 63) rfl ?_); refine goesL_ (some 20) rfl rfl Try.func63 (by kernel_rfl) rfl #[.int .i64 (wrap64 (2000 + x4_1))] rfl (by (try simp only [List.map_toArray, List.map_cons, List.map_nil]); first | done | rfl | (simp only [List.length_drop, List.length_take]; rfl)) ?_; (with_reducible refine (computusref02_Leap.calls (wrap64 (2000 + x4_1)) true _ A5.out).mono ?_); rintro e w' ⟨rfl, ⟨nd, rfl⟩⟩; refine ⟨_, rfl, ?_⟩))
          go_roundg k1
          case measure => have := HK1.out; omega
          case rel => exact ⟨(wrap64 ((wrap64 (x3_1 + 365)) + 1)), (wrap64 (x4_1 + 1)), (by first | rfl | (simp; done) | (simp [*]; done)), (by first | rfl | (simp; done) | (simp [*]; done)), H', ⟨by have := HK1.out; omega⟩, by repeat (first | exact Drawn0.refl _ | apply Drawn0.step)⟩
        · replace c6 := Bool.eq_false_iff.mpr c6
          subst c6
          have H1 : (computusref02_start.l0 k1 a0 (wrap64 (x3_1 + 365)) (wrap64 (x4_1 + 1))) = some r := by rw [if_neg (show ¬ (false = true) by decide)] at H; exact H
          clear H
          have H := H1
          clear H1
          have H' := Aside0.mk H
          clear H
          go_wp2_with (first | ((with_reducible refine kL (f := 62) rfl ?_); refine goesL_ (some 12) rfl rfl Try.func62 (by kernel_rfl) rfl #[.int .i64 (wrap64 (a0 - 2000)), .int .i64 400] rfl (by (try simp only [List.map_toArray, List.map_cons, List.map_nil]); first | done | rfl | (simp only [List.length_drop, List.length_take]; rfl)) ?_; (with_reducible refine (computusref02_mod.calls (wrap64 (a0 - 2000)) 400 t136 _ A3.out).mono ?_); rintro e w' ⟨rfl, ⟨nd, rfl⟩⟩; refine ⟨_, rfl, ?_⟩) | ((with_reducible refine kL (f := 63) rfl ?_); refine goesL_ (some 20) rfl rfl Try.func63 (by kernel_rfl) rfl #[.int .i64 (wrap64 (2000 + x4_1))] rfl (by (try simp only [List.map_toArray, List.map_cons, List.map_nil]); first | done | rfl | (simp only [List.length_drop, List.length_take]; rfl)) ?_; (with_reducible refine (computusref02_Leap.calls (wrap64 (2000 + x4_1)) false _ A5.out).mono ?_); rintro e w' ⟨rfl, ⟨nd, rfl⟩⟩; refine ⟨_, rfl, ?_⟩))
          go_roundg k1
          case measure => have := HK1.out; omega
          case rel => exact ⟨(wrap64 (x3_1 + 365)), (wrap64 (x4_1 + 1)), (by first | rfl | (simp; done) | (simp [*]; done)), (by first | rfl | (simp; done) | (simp [*]; done)), H', ⟨by have := HK1.out; omega⟩, by repeat (first | exact Drawn0.refl _ | apply Drawn0.step)⟩
      · rw [if_neg c4] at H
        have c4b0 : decide (x4_1 < t136) = false := decide_eq_false c4
        clear c4
        obtain rfl := Option.some.inj H
        go_wp2_with (first | ((with_reducible refine kL (f := 62) rfl ?_); refine goesL_ (some 12) rfl rfl Try.func62 (by kernel_rfl) rfl #[.int .i64 (wrap64 (a0 - 2000)), .int .i64 400] rfl (by (try simp only [List.map_toArray, List.map_cons, List.map_nil]); first | done | rfl | (simp only [List.length_drop, List.length_take]; rfl)) ?_; (with_reducible refine (computusref02_mod.calls (wrap64 (a0 - 2000)) 400 t136 _ A3.out).mono ?_); rintro e w' ⟨rfl, ⟨nd, rfl⟩⟩; refine ⟨_, rfl, ?_⟩))
        go_ret
        exact ⟨by first | rfl | (simp; done) | (simp [*]; done), by repeat (first | exact Drawn0.refl _ | apply Drawn0.step)⟩
end Go.Proofs.Ytgjbdojpncmmlaa.P
namespace Go.Proofs.Ytgjbdojpncmmlaa.P
open Go.RowKit Go.Proofs.YtgjbdojpncmmlaaW.PrintWords Go.Proofs.YtgjbdojpncmmlaaW.PrintLast Go.Proofs.YtgjbdojpncmmlaaW.PrintMore
open Go.Proofs.Ytgjbdojpncmmlaa.A
attribute [local go_sem] max2_int min2_int max_two min_two max_three min_three max_four min_four   -- for this text's walks alone
set_option linter.unusedVariables false
set_option linter.unusedSimpArgs false
def computusref02_day.l0 : Nat → Int → Int → Int → Int → Option (Int)
  | 0, _, _, _, _ => none
  | k + 1, x0, x1, x7, x8 => if x8 < x1 then ((computusref02_Len.f k x0 x8).bind fun t139 => (computusref02_day.l0 k x0 x1 (wrap64 (x7 + t139)) (wrap64 (x8 + 1)))) else (some x7)
def computusref02_day.f (k : Nat) (a0 : Int) (a1 : Int) (a2 : Int) : Option (Int) := (computusref02_start.f k a0).bind fun t138 => (computusref02_day.l0 k a0 a1 (wrap64 ((wrap64 (t138 + a2)) - 1)) 1)
theorem computusref02_day.mono_l : ∀ k, (∀ y0 y1 y2 y3, LeO (computusref02_day.l0 k y0 y1 y2 y3) (computusref02_day.l0 (k + 1) y0 y1 y2 y3))
  | 0 => fun _ _ _ _ r h => by simp [computusref02_day.l0] at h
  | k + 1 => by
    have ih0 := computusref02_day.mono_l k
    · intro y0 y1 y2 y3
      unfold computusref02_day.l0
      repeat' first
      | (with_reducible exact ih0 _ _ _ _)
      | (with_reducible exact computusref02_Len.mono _ _ _)
      | (with_reducible exact computusref02_start.mono _ _)
      | (with_reducible exact LeO.refl _)
      | (with_reducible exact LeO.none _)
      | (with_reducible refine LeO.ite ?_ ?_)
      | (with_reducible refine LeO.bind ?_ (fun _ => ?_))
      | exact ih0 _ _ _ _
      | exact computusref02_Len.mono _ _ _
      | exact computusref02_start.mono _ _
      | exact LeO.none _
      | refine LeO.ite ?_ ?_
      | refine LeO.bind ?_ (fun _ => ?_)
theorem computusref02_day.mono : ∀ a0 a1 a2 k, LeO (computusref02_day.f k a0 a1 a2) (computusref02_day.f (k + 1) a0 a1 a2) := by
  intro a0 a1 a2 k
  have ih0 := computusref02_day.mono_l k
  unfold computusref02_day.f
  repeat' first
      | (with_reducible exact ih0 _ _ _ _)
      | (with_reducible exact computusref02_Len.mono _ _ _)
      | (with_reducible exact computusref02_start.mono _ _)
      | (with_reducible exact LeO.refl _)
      | (with_reducible exact LeO.none _)
      | (with_reducible refine LeO.ite ?_ ?_)
      | (with_reducible refine LeO.bind ?_ (fun _ => ?_))
      | exact ih0 _ _ _ _
      | exact computusref02_Len.mono _ _ _
      | exact computusref02_start.mono _ _
      | exact LeO.none _
      | refine LeO.ite ?_ ?_
      | refine LeO.bind ?_ (fun _ => ?_)
set_option maxHeartbeats 8000000 in
set_option maxRecDepth 100000 in
theorem computusref02_day.calls (k : Nat) (a0 : Int) (a1 : Int) (a2 : Int) (r : Int) (w : World) (h : computusref02_day.f k a0 a1 a2 = some r) :
    Calls Try.prog 57 #[.int .i64 a0, .int .i64 a1, .int .i64 a2] w fun e w' => e = .returned (.int .i64 r) ∧ Drawn0 w w' := by
  have H : ((computusref02_start.f k a0).bind fun t138 => (computusref02_day.l0 k a0 a1 (wrap64 ((wrap64 (t138 + a2)) - 1)) 1)) = some r := h
  clear h
  replace H := Option.bind_eq_some_iff.mp H
  obtain ⟨t138, A40, H⟩ := H
  replace H : (computusref02_day.l0 k a0 a1 (wrap64 ((wrap64 (t138 + a2)) - 1)) 1) = some r := H
  have A4 := Aside0.mk A40
  clear A40
  have H' := Aside0.mk H
  clear H
  go_enter Try.func57, Try.ntmps57
  go_wp2_with (first | ((with_reducible refine kL (f := 78) rfl ?_); refine goesL_ (some 10) rfl rfl Try.func78 (by kernel_rfl) rfl #[.int .i64 a0] rfl (by (try simp only [List.map_toArray, List.map_cons, List.map_nil]); first | done | rfl | (simp only [List.length_drop, List.length_take]; rfl)) ?_; (with_reducible refine (computusref02_start.calls k a0 t138 _ A4.out).mono ?_); rintro e w' ⟨rfl, ⟨nd, rfl⟩⟩; refine ⟨_, rfl, ?_⟩))
  go_loopg [7, 8] k (fun kq v7 v8 w' => ∃ (x7_1 : Int) (x8_1 : Int), v7 = .int .i64 x7_1 ∧ v8 = .int .i64 x8_1 ∧ Aside0 (computusref02_day.l0 kq a0 a1 x7_1 x8_1 = some r) ∧ Aside0 (kq ≤ k) ∧ Drawn0 w w')
  case atStart => exact ⟨(wrap64 ((wrap64 (t138 + a2)) - 1)), (1), (by first | rfl | (simp; done) | (simp [*]; done)), (by first | rfl | (simp; done) | (simp [*]; done)), H', ⟨Nat.le_refl _⟩, by repeat (first | exact Drawn0.refl _ | apply Drawn0.step)⟩
  case round =>
    clear H'
    try clear p2
    obtain ⟨x7_1, x8_1, rfl, rfl, HA, HK1, ⟨m1, rfl⟩⟩ := hrel
    cases gk with
    | zero => exact absurd HA.out (by simp [computusref02_day.l0])
    | succ k1 =>
      have H := HA.out
      clear HA
      simp only [computusref02_day.l0] at H
      by_cases c5 : x8_1 < a1
      · rw [if_pos c5] at H
        have c5b0 : decide (x8_1 < a1) = true := decide_eq_true c5
        clear c5
        replace H := Option.bind_eq_some_iff.mp H
        obtain ⟨t139, A60, H⟩ := H
        replace H : (computusref02_day.l0 k1 a0 a1 (wrap64 (x7_1 + t139)) (wrap64 (x8_1 + 1))) = some r := H
        have A6 := Aside0.mk A60
        clear A60
        have H' := Aside0.mk H
        clear H
        go_wp2_with (first | ((with_reducible refine kL (f := 64) rfl ?_); refine goesL_ (some 22) rfl rfl Try.func64 (by kernel_rfl) rfl #[.int .i64 a0, .int .i64 x8_1] rfl (by (try simp only [List.map_toArray, List.map_cons, List.map_nil]); first | done | rfl | (simp only [List.length_drop, List.length_take]; rfl)) ?_; (with_reducible refine (computusref02_Len.calls k1 a0 x8_1 t139 _ A6.out).mono ?_); rintro e w' ⟨rfl, ⟨nd, rfl⟩⟩; refine ⟨_, rfl, ?_⟩))
        go_roundg k1
        case measure => have := HK1.out; omega
        case rel => exact ⟨(wrap64 (x7_1 + t139)), (wrap64 (x8_1 + 1)), (by first | rfl | (simp; done) | (simp [*]; done)), (by first | rfl | (simp; done) | (simp [*]; done)), H', ⟨by have := HK1.out; omega⟩, by repeat (first | exact Drawn0.refl _ | apply Drawn0.step)⟩
      · rw [if_neg c5] at H
        have c5b0 : decide (x8_1 < a1) = false := decide_eq_false c5
        clear c5
        obtain rfl := Option.some.inj H
        go_wp2
        go_ret
        exact ⟨by first | rfl | (simp; done) | (simp [*]; done), by repeat (first | exact Drawn0.refl _ | apply Drawn0.step)⟩
def computusref02_First.f (k : Nat)  : Option (Int) := (computusref02_day.f k (-4718) 1 1).bind fun t142 => (some t142)
theorem computusref02_First.mono : ∀ k, LeO (computusref02_First.f k ) (computusref02_First.f (k + 1) ) := by
  intro  k
  unfold computusref02_First.f
  repeat' first
      | (with_reducible exact computusref02_day.mono _ _ _ _)
      | (with_reducible exact LeO.refl _)
      | (with_reducible exact LeO.none _)
      | (with_reducible refine LeO.ite ?_ ?_)
      | (with_reducible refine LeO.bind ?_ (fun _ => ?_))
      | exact computusref02_day.mono _ _ _ _
      | exact LeO.none _
      | refine LeO.ite ?_ ?_
      | refine LeO.bind ?_ (fun _ => ?_)
set_option maxHeartbeats 8000000 in
set_option maxRecDepth 100000 in
theorem computusref02_First.calls (k : Nat)  (r : Int) (w : World) (h : computusref02_First.f k  = some r) :
    Calls Try.prog 81 #[] w fun e w' => e = .returned (.int .i64 r) ∧ Drawn0 w w' := by
  have H : ((computusref02_day.f k (-4718) 1 1).bind fun t142 => (some t142)) = some r := h
  clear h
  replace H := Option.bind_eq_some_iff.mp H
  obtain ⟨t142, A10, H⟩ := H
  replace H : (some t142) = some r := H
  have A1 := Aside0.mk A10
  clear A10
  obtain rfl := Option.some.inj H
  go_enter Try.func81, Try.ntmps81
  go_wp2_with (first | ((with_reducible refine kL (f := 57) rfl ?_); refine goesL_ (some 1) rfl rfl Try.func57 (by kernel_rfl) rfl #[.int .i64 (-4718), .int .i64 1, .int .i64 1] rfl (by (try simp only [List.map_toArray, List.map_cons, List.map_nil]); first | done | rfl | (simp only [List.length_drop, List.length_take]; rfl)) ?_; (with_reducible refine (computusref02_day.calls k (-4718) 1 1 t142 _ A1.out).mono ?_); rintro e w' ⟨rfl, ⟨nd, rfl⟩⟩; refine ⟨_, rfl, ?_⟩))
  go_ret
  exact ⟨by first | rfl | (simp; done) | (simp [*]; done), by repeat (first | exact Drawn0.refl _ | apply Drawn0.step)⟩
def computusref02_Last.f (k : Nat)  : Option (Int) := (computusref02_day.f k 294282 12 31).bind fun t143 => (some t143)
theorem computusref02_Last.mono : ∀ k, LeO (computusref02_Last.f k ) (computusref02_Last.f (k + 1) ) := by
  intro  k
  unfold computusref02_Last.f
  repeat' first
      | (with_reducible exact computusref02_day.mono _ _ _ _)
      | (with_reducible exact LeO.refl _)
      | (with_reducible exact LeO.none _)
      | (with_reducible refine LeO.ite ?_ ?_)
      | (with_reducible refine LeO.bind ?_ (fun _ => ?_))
      | exact computusref02_day.mono _ _ _ _
      | exact LeO.none _
      | refine LeO.ite ?_ ?_
      | refine LeO.bind ?_ (fun _ => ?_)
set_option maxHeartbeats 8000000 in
set_option maxRecDepth 100000 in
theorem computusref02_Last.calls (k : Nat)  (r : Int) (w : World) (h : computusref02_Last.f k  = some r) :
    Calls Try.prog 82 #[] w fun e w' => e = .returned (.int .i64 r) ∧ Drawn0 w w' := by
  have H : ((computusref02_day.f k 294282 12 31).bind fun t143 => (some t143)) = some r := h
  clear h
  replace H := Option.bind_eq_some_iff.mp H
  obtain ⟨t143, A10, H⟩ := H
  replace H : (some t143) = some r := H
  have A1 := Aside0.mk A10
  clear A10
  obtain rfl := Option.some.inj H
  go_enter Try.func82, Try.ntmps82
  go_wp2_with (first | ((with_reducible refine kL (f := 57) rfl ?_); refine goesL_ (some 1) rfl rfl Try.func57 (by kernel_rfl) rfl #[.int .i64 294282, .int .i64 12, .int .i64 31] rfl (by (try simp only [List.map_toArray, List.map_cons, List.map_nil]); first | done | rfl | (simp only [List.length_drop, List.length_take]; rfl)) ?_; (with_reducible refine (computusref02_day.calls k 294282 12 31 t143 _ A1.out).mono ?_); rintro e w' ⟨rfl, ⟨nd, rfl⟩⟩; refine ⟨_, rfl, ?_⟩))
  go_ret
  exact ⟨by first | rfl | (simp; done) | (simp [*]; done), by repeat (first | exact Drawn0.refl _ | apply Drawn0.step)⟩
def computusref02_Can.f (k : Nat) (a0 : Int) : Option (Bool) := (computusref02_First.f k).bind fun t144 => (if a0 ≥ t144 then ((computusref02_Last.f k).bind fun t145 => (some (decide (a0 ≤ t145)))) else (some false))
theorem computusref02_Can.mono : ∀ a0 k, LeO (computusref02_Can.f k a0) (computusref02_Can.f (k + 1) a0) := by
  intro a0 k
  unfold computusref02_Can.f
  repeat' first
      | (with_reducible exact computusref02_First.mono _)
      | (with_reducible exact computusref02_Last.mono _)
      | (with_reducible exact LeO.refl _)
      | (with_reducible exact LeO.none _)
      | (with_reducible refine LeO.ite ?_ ?_)
      | (with_reducible refine LeO.bind ?_ (fun _ => ?_))
      | exact computusref02_First.mono _
      | exact computusref02_Last.mono _
      | exact LeO.none _
      | refine LeO.ite ?_ ?_
      | refine LeO.bind ?_ (fun _ => ?_)
set_option maxHeartbeats 8000000 in
set_option maxRecDepth 100000 in
theorem computusref02_Can.calls (k : Nat) (a0 : Int) (r : Bool) (w : World) (h : computusref02_Can.f k a0 = some r) :
    Calls Try.prog 60 #[.int .i64 a0] w fun e w' => e = .returned (.bool r) ∧ Drawn0 w w' := by
  have H : ((computusref02_First.f k).bind fun t144 => (if a0 ≥ t144 then ((computusref02_Last.f k).bind fun t145 => (some (decide (a0 ≤ t145)))) else (some false))) = some r := h
  clear h
  replace H := Option.bind_eq_some_iff.mp H
  obtain ⟨t144, A20, H⟩ := H
  replace H : (if a0 ≥ t144 then ((computusref02_Last.f k).bind fun t145 => (some (decide (a0 ≤ t145)))) else (some false)) = some r := H
  have A2 := Aside0.mk A20
  clear A20
  by_cases c3 : a0 ≥ t144
  · rw [if_pos c3] at H
    have c3b0 : decide (t144 ≤ a0) = true := decide_eq_true c3
    clear c3
    replace H := Option.bind_eq_some_iff.mp H
    obtain ⟨t145, A40, H⟩ := H
    replace H : (some (decide (a0 ≤ t145))) = some r := H
    have A4 := Aside0.mk A40
    clear A40
    obtain rfl := Option.some.inj H
    go_enter Try.func60, Try.ntmps60
    go_wp2_with (first | ((with_reducible refine kL (f := 81) rfl ?_); refine goesL_ (some 4) rfl rfl Try.func81 (by kernel_rfl) rfl #[] rfl (by (try simp only [List.map_toArray, List.map_cons, List.map_nil]); first | done | rfl | (simp only [List.length_drop, List.length_take]; rfl)) ?_; (with_reducible refine (computusref02_First.calls k  t144 _ A2.out).mono ?_); rintro e w' ⟨rfl, ⟨nd, rfl⟩⟩; refine ⟨_, rfl, ?_⟩) | (go_at_call 82; (with_reducible refine (computusref02_Last.calls k  t145 _ A4.out).mono ?_); rintro e w' ⟨rfl, ⟨nd, rfl⟩⟩))
    go_ret
    exact ⟨by first | rfl | (simp; done) | (simp [*]; done), by repeat (first | exact Drawn0.refl _ | apply Drawn0.step)⟩
  · rw [if_neg c3] at H
    have c3b0 : decide (t144 ≤ a0) = false := decide_eq_false c3
    clear c3
    obtain rfl := Option.some.inj H
    go_enter Try.func60, Try.ntmps60
    go_wp2_with (first | ((with_reducible refine kL (f := 81) rfl ?_); refine goesL_ (some 4) rfl rfl Try.func81 (by kernel_rfl) rfl #[] rfl (by (try simp only [List.map_toArray, List.map_cons, List.map_nil]); first | done | rfl | (simp only [List.length_drop, List.length_take]; rfl)) ?_; (with_reducible refine (computusref02_First.calls k  t144 _ A2.out).mono ?_); rintro e w' ⟨rfl, ⟨nd, rfl⟩⟩; refine ⟨_, rfl, ?_⟩))
    go_ret
    exact ⟨by first | rfl | (simp; done) | (simp [*]; done), by repeat (first | exact Drawn0.refl _ | apply Drawn0.step)⟩
end Go.Proofs.Ytgjbdojpncmmlaa.P
namespace Go.Proofs.Ytgjbdojpncmmlaa.P
open Go.RowKit Go.Proofs.YtgjbdojpncmmlaaW.PrintWords Go.Proofs.YtgjbdojpncmmlaaW.PrintLast Go.Proofs.YtgjbdojpncmmlaaW.PrintMore
open Go.Proofs.Ytgjbdojpncmmlaa.A
attribute [local go_sem] max2_int min2_int max_two min_two max_three min_three max_four min_four   -- for this text's walks alone
set_option linter.unusedVariables false
set_option linter.unusedSimpArgs false
mutual
def computusref02_Date.j1 : Nat → Int → Int → Option (Int × Int × Int × Int)
  | 0, _, _ => none
  | k + 1, x6, x7 => computusref02_Date.l1 k x6 x7 1
def computusref02_Date.l1 : Nat → Int → Int → Int → Option (Int × Int × Int × Int)
  | 0, _, _, _ => none
  | k + 1, x6, x7, x9 => (computusref02_Len.f k x6 x9).bind fun t150 => (if x7 ≥ t150 then ((computusref02_Len.f k x6 x9).bind fun t151 => (computusref02_Date.l1 k x6 (wrap64 (x7 - t151)) (wrap64 (x9 + 1)))) else (some (x6, x9, wrap64 (x7 + 1), 0)))
def computusref02_Date.l0 : Nat → Int → Int → Option (Int × Int × Int × Int)
  | 0, _, _ => none
  | k + 1, x6, x7 => (computusref02_Leap.f x6).bind fun t149 => (if t149 = true then (if x7 < 366 then (computusref02_Date.j1 k x6 x7) else (computusref02_Date.l0 k (wrap64 (x6 + 1)) (wrap64 (x7 - 366)))) else (if x7 < 365 then (computusref02_Date.j1 k x6 x7) else (computusref02_Date.l0 k (wrap64 (x6 + 1)) (wrap64 (x7 - 365)))))
end
def computusref02_Date.f (k : Nat) (a0 : Int) : Option (Int × Int × Int × Int) := (computusref02_Can.f k a0).bind fun t146 => (if t146 = true then ((computusref02_div.f a0 146097).bind fun t147 => ((computusref02_mod.f a0 146097).bind fun t148 => (computusref02_Date.l0 k (wrap64 (2000 + (wrap64 (t147 * 400)))) t148))) else (some (0, 0, 0, 10)))
theorem computusref02_Date.mono_l : ∀ k, (∀ y0 y1, LeO (computusref02_Date.j1 k y0 y1) (computusref02_Date.j1 (k + 1) y0 y1)) ∧ (∀ y0 y1 y2, LeO (computusref02_Date.l1 k y0 y1 y2) (computusref02_Date.l1 (k + 1) y0 y1 y2)) ∧ (∀ y0 y1, LeO (computusref02_Date.l0 k y0 y1) (computusref02_Date.l0 (k + 1) y0 y1))
  | 0 => ⟨fun _ _ r h => by simp [computusref02_Date.j1] at h, fun _ _ _ r h => by simp [computusref02_Date.l1] at h, fun _ _ r h => by simp [computusref02_Date.l0] at h⟩
  | k + 1 => by
    obtain ⟨ih0, ih1, ih2⟩ := computusref02_Date.mono_l k
    refine ⟨?_, ?_, ?_⟩
    · intro y0 y1
      unfold computusref02_Date.j1
      repeat' first
      | (with_reducible exact ih0 _ _)
      | (with_reducible exact ih1 _ _ _)
      | (with_reducible exact ih2 _ _)
      | (with_reducible exact computusref02_Can.mono _ _)
      | (with_reducible exact computusref02_Len.mono _ _ _)
      | (with_reducible exact LeO.refl _)
      | (with_reducible exact LeO.none _)
      | (with_reducible refine LeO.ite ?_ ?_)
      | (with_reducible refine LeO.bind ?_ (fun _ => ?_))
      | exact ih0 _ _
      | exact ih1 _ _ _
      | exact ih2 _ _
      | exact computusref02_Can.mono _ _
      | exact computusref02_Len.mono _ _ _
      | exact LeO.none _
      | refine LeO.ite ?_ ?_
      | refine LeO.bind ?_ (fun _ => ?_)
    · intro y0 y1 y2
      unfold computusref02_Date.l1
      repeat' first
      | (with_reducible exact ih0 _ _)
      | (with_reducible exact ih1 _ _ _)
      | (with_reducible exact ih2 _ _)
      | (with_reducible exact computusref02_Can.mono _ _)
      | (with_reducible exact computusref02_Len.mono _ _ _)
      | (with_reducible exact LeO.refl _)
      | (with_reducible exact LeO.none _)
      | (with_reducible refine LeO.ite ?_ ?_)
      | (with_reducible refine LeO.bind ?_ (fun _ => ?_))
      | exact ih0 _ _
      | exact ih1 _ _ _
      | exact ih2 _ _
      | exact computusref02_Can.mono _ _
      | exact computusref02_Len.mono _ _ _
      | exact LeO.none _
      | refine LeO.ite ?_ ?_
      | refine LeO.bind ?_ (fun _ => ?_)
    · intro y0 y1
      unfold computusref02_Date.l0
      repeat' first
      | (with_reducible exact ih0 _ _)
      | (with_reducible exact ih1 _ _ _)
      | (with_reducible exact ih2 _ _)
      | (with_reducible exact computusref02_Can.mono _ _)
      | (with_reducible exact computusref02_Len.mono _ _ _)
      | (with_reducible exact LeO.refl _)
      | (with_reducible exact LeO.none _)
      | (with_reducible refine LeO.ite ?_ ?_)
      | (with_reducible refine LeO.bind ?_ (fun _ => ?_))
      | exact ih0 _ _
      | exact ih1 _ _ _
      | exact ih2 _ _
      | exact computusref02_Can.mono _ _
      | exact computusref02_Len.mono _ _ _
      | exact LeO.none _
      | refine LeO.ite ?_ ?_
      | refine LeO.bind ?_ (fun _ => ?_)
theorem computusref02_Date.mono : ∀ a0 k, LeO (computusref02_Date.f k a0) (computusref02_Date.f (k + 1) a0) := by
  intro a0 k
  obtain ⟨ih0, ih1, ih2⟩ := computusref02_Date.mono_l k
  unfold computusref02_Date.f
  repeat' first
      | (with_reducible exact ih0 _ _)
      | (with_reducible exact ih1 _ _ _)
      | (with_reducible exact ih2 _ _)
      | (with_reducible exact computusref02_Can.mono _ _)
      | (with_reducible exact computusref02_Len.mono _ _ _)
      | (with_reducible exact LeO.refl _)
      | (with_reducible exact LeO.none _)
      | (with_reducible refine LeO.ite ?_ ?_)
      | (with_reducible refine LeO.bind ?_ (fun _ => ?_))
      | exact ih0 _ _
      | exact ih1 _ _ _
      | exact ih2 _ _
      | exact computusref02_Can.mono _ _
      | exact computusref02_Len.mono _ _ _
      | exact LeO.none _
      | refine LeO.ite ?_ ?_
      | refine LeO.bind ?_ (fun _ => ?_)
set_option maxHeartbeats 8000000 in
set_option maxRecDepth 100000 in
theorem computusref02_Date.calls (k : Nat) (a0 : Int) (r1 : Int) (r2 : Int) (r3 : Int) (r4 : Int) (w : World) (h : computusref02_Date.f k a0 = some (r1, r2, r3, r4)) :
    Calls Try.prog 39 #[.int .i64 a0] w fun e w' => e = .returned (.tuple #[.int .i64 r1, .int .i64 r2, .int .i64 r3, .int .i64 r4]) ∧ Drawn0 w w' := by
  have H : ((computusref02_Can.f k a0).bind fun t146 => (if t146 = true then ((computusref02_div.f a0 146097).bind fun t147 => ((computusref02_mod.f a0 146097).bind fun t148 => (computusref02_Date.l0 k (wrap64 (2000 + (wrap64 (t147 * 400)))) t148))) else (some (0, 0, 0, 10)))) = some (r1, r2, r3, r4) := h
  clear h
  replace H := Option.bind_eq_some_iff.mp H
  obtain ⟨t146, A20, H⟩ := H
  replace H : (if t146 = true then ((computusref02_div.f a0 146097).bind fun t147 => ((computusref02_mod.f a0 146097).bind fun t148 => (computusref02_Date.l0 k (wrap64 (2000 + (wrap64 (t147 * 400)))) t148))) else (some (0, 0, 0, 10))) = some (r1, r2, r3, r4) := H
  have A2 := Aside0.mk A20
  clear A20
  by_cases c3 : t146 = true
  · subst c3
    have H1 : ((computusref02_div.f a0 146097).bind fun t147 => ((computusref02_mod.f a0 146097).bind fun t148 => (computusref02_Date.l0 k (wrap64 (2000 + (wrap64 (t147 * 400)))) t148))) = some (r1, r2, r3, r4) := by rw [if_pos rfl] at H; exact H
    clear H
    have H := H1
    clear H1
    replace H := Option.bind_eq_some_iff.mp H
    obtain ⟨t147, A40, H⟩ := H
    replace H : ((computusref02_mod.f a0 146097).bind fun t148 => (computusref02_Date.l0 k (wrap64 (2000 + (wrap64 (t147 * 400)))) t148)) = some (r1, r2, r3, r4) := H
    have A4 := Aside0.mk A40
    clear A40
    replace H := Option.bind_eq_some_iff.mp H
    obtain ⟨t148, A50, H⟩ := H
    replace H : (computusref02_Date.l0 k (wrap64 (2000 + (wrap64 (t147 * 400)))) t148) = some (r1, r2, r3, r4) := H
    have A5 := Aside0.mk A50
    clear A50
    have HC6 := Aside0.mk H
    clear H
    go_enter Try.func39, Try.ntmps39
    go_upto_block 0 with (first | ((with_reducible refine kL (f := 60) rfl ?_); refine goesL_ (some 11) rfl rfl Try.func60 (by kernel_rfl) rfl #[.int .i64 a0] rfl (by (try simp only [List.map_toArray, List.map_cons, List.map_nil]); first | done | rfl | (simp only [List.length_drop, List.length_take]; rfl)) ?_; (with_reducible refine (computusref02_Can.calls k a0 true _ A2.out).mono ?_); rintro e w' ⟨rfl, ⟨nd, rfl⟩⟩; refine ⟨_, rfl, ?_⟩) | ((with_reducible refine kL (f := 61) rfl ?_); refine goesL_ (some 14) rfl rfl Try.func61 (by kernel_rfl) rfl #[.int .i64 a0, .int .i64 146097] rfl (by (try simp only [List.map_toArray, List.map_cons, List.map_nil]); first | done | rfl | (simp only [List.length_drop, List.length_take]; rfl)) ?_; (with_reducible refine (computusref02_div.calls a0 146097 t147 _ A4.out).mono ?_); rintro e w' ⟨rfl, ⟨nd, rfl⟩⟩; refine ⟨_, rfl, ?_⟩) | ((with_reducible refine kL (f := 62) rfl ?_); refine goesL_ (some 18) rfl rfl Try.func62 (by kernel_rfl) rfl #[.int .i64 a0, .int .i64 146097] rfl (by (try simp only [List.map_toArray, List.map_cons, List.map_nil]); first | done | rfl | (simp only [List.length_drop, List.length_take]; rfl)) ?_; (with_reducible refine (computusref02_mod.calls a0 146097 t148 _ A5.out).mono ?_); rintro e w' ⟨rfl, ⟨nd, rfl⟩⟩; refine ⟨_, rfl, ?_⟩))
    (try simp only [Act.put, List.setIfInBounds_toArray, List.set_cons_zero, List.set_cons_succ])
    go_cut [6, 7] (fun v6 v7 wc => ∃ (kq : Nat) (x6_5 : Int) (x7_5 : Int), v6 = .int .i64 x6_5 ∧ v7 = .int .i64 x7_5 ∧ Aside0 (computusref02_Date.j1 kq x6_5 x7_5 = some (r1, r2, r3, r4)) ∧ Aside0 (kq ≤ k) ∧ Drawn0 w wc)
    case first =>
      have H := HC6.out
      clear HC6
      have H' := Aside0.mk H
      clear H
      go_wp2
      go_loopg [6, 7] k (fun kq v6 v7 w' => ∃ (x6_1 : Int) (x7_1 : Int), v6 = .int .i64 x6_1 ∧ v7 = .int .i64 x7_1 ∧ Aside0 (computusref02_Date.l0 kq x6_1 x7_1 = some (r1, r2, r3, r4)) ∧ Aside0 (kq ≤ k) ∧ Drawn0 w w')
      case atStart => exact ⟨(wrap64 (2000 + (wrap64 (t147 * 400)))), (t148), (by first | rfl | (simp; done) | (simp [*]; done)), (by first | rfl | (simp; done) | (simp [*]; done)), H', ⟨Nat.le_refl _⟩, by repeat (first | exact Drawn0.refl _ | apply Drawn0.step)⟩
      case round =>
        clear H'
        try clear p2
        try clear c3
        try clear c6
        try clear p6
        obtain ⟨x6_1, x7_1, rfl, rfl, HA, HK1, ⟨m1, rfl⟩⟩ := hrel
        cases gk with
        | zero => exact absurd HA.out (by simp [computusref02_Date.l0])
        | succ k1 =>
          have H := HA.out
          clear HA
          simp only [computusref02_Date.l0] at H
          replace H := Option.bind_eq_some_iff.mp H
          obtain ⟨t149, A70, H⟩ := H
          replace H : (if t149 = true then (if x7_1 < 366 then (computusref02_Date.j1 k1 x6_1 x7_1) else (computusref02_Date.l0 k1 (wrap64 (x6_1 + 1)) (wrap64 (x7_1 - 366)))) else (if x7_1 < 365 then (computusref02_Date.j1 k1 x6_1 x7_1) else (computusref02_Date.l0 k1 (wrap64 (x6_1 + 1)) (wrap64 (x7_1 - 365))))) = some (r1, r2, r3, r4) := H
          have A7 := Aside0.mk A70
          clear A70
          by_cases c8 : t149 = true
          · subst c8
            have H1 : (if x7_1 < 366 then (computusref02_Date.j1 k1 x6_1 x7_1) else (computusref02_Date.l0 k1 (wrap64 (x6_1 + 1)) (wrap64 (x7_1 - 366)))) = some (r1, r2, r3, r4) := by rw [if_pos rfl] at H; exact H
            clear H
            have H := H1
            clear H1
            by_cases c9 : x7_1 < 366
            · rw [if_pos c9] at H
              have c9b0 : decide (x7_1 < 366) = true := decide_eq_true c9
              clear c9
              (first | rw [c9b0] | (simp only [kN, kO]; rw [c9b0]) | skip)
              have H' := Aside0.mk H
              clear H
              go_wp2_with (first | ((with_reducible refine kL (f := 63) rfl ?_); refine goesL_ (some 20) rfl rfl Try.func63 (by kernel_rfl) rfl #[.int .i64 x6_1] rfl (by (try simp only [List.map_toArray, List.map_cons, List.map_nil]); first | done | rfl | (simp only [List.length_drop, List.length_take]; rfl)) ?_; (with_reducible refine (computusref02_Leap.calls x6_1 true _ A7.out).mono ?_); rintro e w' ⟨rfl, ⟨nd, rfl⟩⟩; refine ⟨_, rfl, ?_⟩))
              go_meet
              case rel => exact ⟨_, (x6_1), (x7_1), (by first | rfl | (simp; done) | (simp [*]; done)), (by first | rfl | (simp; done) | (simp [*]; done)), H', ⟨by have := HK1.out; first | omega | exact Nat.le_refl _⟩, by repeat (first | exact Drawn0.refl _ | apply Drawn0.step)⟩
            · rw [if_neg c9] at H
              have c9b0 : decide (x7_1 < 366) = false := decide_eq_false c9
              clear c9
              (first | rw [c9b0] | (simp only [kN, kO]; rw [c9b0]) | skip)
              have H' := Aside0.mk H
              clear H
              go_wp2_with (first | ((with_reducible refine kL (f := 63) rfl ?_); refine goesL_ (some 20) rfl rfl Try.func63 (by kernel_rfl) rfl #[.int .i64 x6_1] rfl (by (try simp only [List.map_toArray, List.map_cons, List.map_nil]); first | done | rfl | (simp only [List.length_drop, List.length_take]; rfl)) ?_; (with_reducible refine (computusref02_Leap.calls x6_1 true _ A7.out).mono ?_); rintro e w' ⟨rfl, ⟨nd, rfl⟩⟩; refine ⟨_, rfl, ?_⟩))
              go_roundg k1
              case measure => have := HK1.out; omega
              case rel => exact ⟨(wrap64 (x6_1 + 1)), (wrap64 (x7_1 - 366)), (by first | rfl | (simp; done) | (simp [*]; done)), (by first | rfl | (simp; done) | (simp [*]; done)), H', ⟨by have := HK1.out; omega⟩, by repeat (first | exact Drawn0.refl _ | apply Drawn0.step)⟩
          · replace c8 := Bool.eq_false_iff.mpr c8
            subst c8
            have H1 : (if x7_1 < 365 then (computusref02_Date.j1 k1 x6_1 x7_1) else (computusref02_Date.l0 k1 (wrap64 (x6_1 + 1)) (wrap64 (x7_1 - 365)))) = some (r1, r2, r3, r4) := by rw [if_neg (show ¬ (false = true) by decide)] at H; exact H
            clear H
            have H := H1
            clear H1
            by_cases c10 : x7_1 < 365
            · rw [if_pos c10] at H
              have c10b0 : decide (x7_1 < 365) = true := decide_eq_true c10
              clear c10
              have H' := Aside0.mk H
              clear H
              go_wp2_with (first | ((with_reducible refine kL (f := 63) rfl ?_); refine goesL_ (some 20) rfl rfl Try.func63 (by kernel_rfl) rfl #[.int .i64 x6_1] rfl (by (try simp only [List.map_toArray, List.map_cons, List.map_nil]); first | done | rfl | (simp only [List.length_drop, List.length_take]; rfl)) ?_; (with_reducible refine (computusref02_Leap.calls x6_1 false _ A7.out).mono ?_); rintro e w' ⟨rfl, ⟨nd, rfl⟩⟩; refine ⟨_, rfl, ?_⟩))
              go_meet
              case rel => exact ⟨_, (x6_1), (x7_1), (by first | rfl | (simp; done) | (simp [*]; done)), (by first | rfl | (simp; done) | (simp [*]; done)), H', ⟨by have := HK1.out; first | omega | exact Nat.le_refl _⟩, by repeat (first | exact Drawn0.refl _ | apply Drawn0.step)⟩
            · rw [if_neg c10] at H
              have c10b0 : decide (x7_1 < 365) = false := decide_eq_false c10
              clear c10
              have H' := Aside0.mk H
              clear H
              go_wp2_with (first | ((with_reducible refine kL (f := 63) rfl ?_); refine goesL_ (some 20) rfl rfl Try.func63 (by kernel_rfl) rfl #[.int .i64 x6_1] rfl (by (try simp only [List.map_toArray, List.map_cons, List.map_nil]); first | done | rfl | (simp only [List.length_drop, List.length_take]; rfl)) ?_; (with_reducible refine (computusref02_Leap.calls x6_1 false _ A7.out).mono ?_); rintro e w' ⟨rfl, ⟨nd, rfl⟩⟩; refine ⟨_, rfl, ?_⟩))
              go_roundg k1
              case measure => have := HK1.out; omega
              case rel => exact ⟨(wrap64 (x6_1 + 1)), (wrap64 (x7_1 - 365)), (by first | rfl | (simp; done) | (simp [*]; done)), (by first | rfl | (simp; done) | (simp [*]; done)), H', ⟨by have := HK1.out; omega⟩, by repeat (first | exact Drawn0.refl _ | apply Drawn0.step)⟩
    case rest =>
      clear HC6
      try clear c1
      try clear p2
      try clear c3
      try clear c6
      try clear p6
      try clear c8
      try clear c9
      try clear c9b0
      try clear c10
      try clear c10b0
      try clear p2
      try clear p6
      obtain ⟨kq, x6_5, x7_5, rfl, rfl, HA, HJ5, ⟨mc5, rfl⟩⟩ := hcut
      cases kq with
      | zero => exact absurd HA.out (by simp [computusref02_Date.j1])
      | succ kj5 =>
        have H := HA.out
        clear HA
        simp only [computusref02_Date.j1] at H
        have H' := Aside0.mk H
        clear H
        go_wp2
        go_loopg [7, 9] kj5 (fun kq v7 v9 w' => ∃ (x7_2 : Int) (x9_2 : Int), v7 = .int .i64 x7_2 ∧ v9 = .int .i64 x9_2 ∧ Aside0 (computusref02_Date.l1 kq x6_5 x7_2 x9_2 = some (r1, r2, r3, r4)) ∧ Aside0 (kq ≤ kj5) ∧ Drawn0 w w')
        case atStart => exact ⟨(x7_5), (1), (by first | rfl | (simp; done) | (simp [*]; done)), (by first | rfl | (simp; done) | (simp [*]; done)), H', ⟨Nat.le_refl _⟩, by repeat (first | exact Drawn0.refl _ | apply Drawn0.step)⟩
        case round =>
          clear H'
          try clear c1
          try clear p2
          try clear c3
          try clear c5
          try clear c6
          try clear p6
          try clear c8
          try clear c9
          try clear c9b0
          try clear c10
          try clear c10b0
          try clear p2
          try clear p6
          obtain ⟨x7_2, x9_2, rfl, rfl, HA, HK2, ⟨m2, rfl⟩⟩ := hrel
          cases gk with
          | zero => exact absurd HA.out (by simp [computusref02_Date.l1])
          | succ k2 =>
            have H := HA.out
            clear HA
            simp only [computusref02_Date.l1] at H
            replace H := Option.bind_eq_some_iff.mp H
            obtain ⟨t150, A110, H⟩ := H
            replace H : (if x7_2 ≥ t150 then ((computusref02_Len.f k2 x6_5 x9_2).bind fun t151 => (computusref02_Date.l1 k2 x6_5 (wrap64 (x7_2 - t151)) (wrap64 (x9_2 + 1)))) else (some (x6_5, x9_2, wrap64 (x7_2 + 1), 0))) = some (r1, r2, r3, r4) := H
            have A11 := Aside0.mk A110
            clear A110
            by_cases c12 : x7_2 ≥ t150
            · rw [if_pos c12] at H
              have c12b0 : decide (t150 ≤ x7_2) = true := decide_eq_true c12
              clear c12
              replace H := Option.bind_eq_some_iff.mp H
              obtain ⟨t151, A130, H⟩ := H
              replace H : (computusref02_Date.l1 k2 x6_5 (wrap64 (x7_2 - t151)) (wrap64 (x9_2 + 1))) = some (r1, r2, r3, r4) := H
              have A13 := Aside0.mk A130
              clear A130
              have H' := Aside0.mk H
              clear H
              go_wp2_with (first | ((with_reducible refine kL (f := 64) rfl ?_); refine goesL_ (some 32) rfl rfl Try.func64 (by kernel_rfl) rfl #[.int .i64 x6_5, .int .i64 x9_2] rfl (by (try simp only [List.map_toArray, List.map_cons, List.map_nil]); first | done | rfl | (simp only [List.length_drop, List.length_take]; rfl)) ?_; (with_reducible refine (computusref02_Len.calls k2 x6_5 x9_2 t150 _ A11.out).mono ?_); rintro e w' ⟨rfl, ⟨nd, rfl⟩⟩; refine ⟨_, rfl, ?_⟩) | ((with_reducible refine kL (f := 64) rfl ?_); refine goesL_ (some 37) rfl rfl Try.func64 (by kernel_rfl) rfl #[.int .i64 x6_5, .int .i64 x9_2] rfl (by (try simp only [List.map_toArray, List.map_cons, List.map_nil]); first | done | rfl | (simp only [List.length_drop, List.length_take]; rfl)) ?_; (with_reducible refine (computusref02_Len.calls k2 x6_5 x9_2 t151 _ A13.out).mono ?_); rintro e w' ⟨rfl, ⟨nd, rfl⟩⟩; refine ⟨_, rfl, ?_⟩))
              go_roundg k2
              case measure => have := HJ5.out; have := HK2.out; omega
              case rel => exact ⟨(wrap64 (x7_2 - t151)), (wrap64 (x9_2 + 1)), (by first | rfl | (simp; done) | (simp [*]; done)), (by first | rfl | (simp; done) | (simp [*]; done)), H', ⟨by have := HJ5.out; have := HK2.out; omega⟩, by repeat (first | exact Drawn0.refl _ | apply Drawn0.step)⟩
            · rw [if_neg c12] at H
              have c12b0 : decide (t150 ≤ x7_2) = false := decide_eq_false c12
              clear c12
              simp only [Option.some.injEq, Prod.mk.injEq] at H
              obtain ⟨rfl, rfl, rfl, rfl⟩ := H
              go_wp2_with (first | ((with_reducible refine kL (f := 64) rfl ?_); refine goesL_ (some 32) rfl rfl Try.func64 (by kernel_rfl) rfl #[.int .i64 x6_5, .int .i64 x9_2] rfl (by (try simp only [List.map_toArray, List.map_cons, List.map_nil]); first | done | rfl | (simp only [List.length_drop, List.length_take]; rfl)) ?_; (with_reducible refine (computusref02_Len.calls k2 x6_5 x9_2 t150 _ A11.out).mono ?_); rintro e w' ⟨rfl, ⟨nd, rfl⟩⟩; refine ⟨_, rfl, ?_⟩))
              refine bodyPost_ret (results_list (rs := [.tmp 2, .tmp 3, .tmp 4, .tmp 5]) rfl (by simp) (.tmp (.tmp (.tmp (.tmp .nil))))) rfl ?_
              exact ⟨by first | rfl | (simp; done) | (simp [*]; done), by repeat (first | exact Drawn0.refl _ | apply Drawn0.step)⟩
  · replace c3 := Bool.eq_false_iff.mpr c3
    subst c3
    have H1 : (some (0, 0, 0, 10)) = some (r1, r2, r3, r4) := by rw [if_neg (show ¬ (false = true) by decide)] at H; exact H
    clear H
    have H := H1
    clear H1
    simp only [Option.some.injEq, Prod.mk.injEq] at H
    obtain ⟨rfl, rfl, rfl, rfl⟩ := H
    go_enter Try.func39, Try.ntmps39
    go_wp2_with (first | ((with_reducible refine kL (f := 60) rfl ?_); refine goesL_ (some 11) rfl rfl Try.func60 (by kernel_rfl) rfl #[.int .i64 a0] rfl (by (try simp only [List.map_toArray, List.map_cons, List.map_nil]); first | done | rfl | (simp only [List.length_drop, List.length_take]; rfl)) ?_; (with_reducible refine (computusref02_Can.calls k a0 false _ A2.out).mono ?_); rintro e w' ⟨rfl, ⟨nd, rfl⟩⟩; refine ⟨_, rfl, ?_⟩))
    refine bodyPost_ret (results_list (rs := [.tmp 2, .tmp 3, .tmp 4, .tmp 5]) rfl (by simp) (.tmp (.tmp (.tmp (.tmp .nil))))) rfl ?_
    exact ⟨by first | rfl | (simp; done) | (simp [*]; done), by repeat (first | exact Drawn0.refl _ | apply Drawn0.step)⟩
end Go.Proofs.Ytgjbdojpncmmlaa.P
namespace Go.Proofs.Ytgjbdojpncmmlaa.P
open Go.RowKit Go.Proofs.YtgjbdojpncmmlaaW.PrintWords Go.Proofs.YtgjbdojpncmmlaaW.PrintLast Go.Proofs.YtgjbdojpncmmlaaW.PrintMore
open Go.Proofs.Ytgjbdojpncmmlaa.A
attribute [local go_sem] max2_int min2_int max_two min_two max_three min_three max_four min_four   -- for this text's walks alone
set_option linter.unusedVariables false
set_option linter.unusedSimpArgs false
attribute [local go_sem high] eqA23
def computusref15_inside.f (k : Nat) (a0 : Int) : Option (Bool) := (computusref02_Date.f k a0).bind fun bt152 => (if bt152.2.2.2 = 0 then (if bt152.1 ≥ (-4712) then (some (decide (bt152.1 ≤ 294276))) else (some false)) else (some false))
theorem computusref15_inside.mono : ∀ a0 k, LeO (computusref15_inside.f k a0) (computusref15_inside.f (k + 1) a0) := by
  intro a0 k
  unfold computusref15_inside.f
  repeat' first
      | (with_reducible exact computusref02_Date.mono _ _)
      | (with_reducible exact LeO.refl _)
      | (with_reducible exact LeO.none _)
      | (with_reducible refine LeO.ite ?_ ?_)
      | (with_reducible refine LeO.bind ?_ (fun _ => ?_))
      | exact computusref02_Date.mono _ _
      | exact LeO.none _
      | refine LeO.ite ?_ ?_
      | refine LeO.bind ?_ (fun _ => ?_)
set_option maxHeartbeats 8000000 in
set_option maxRecDepth 100000 in
theorem computusref15_inside.calls (k : Nat) (a0 : Int) (r : Bool) (w : World) (h : computusref15_inside.f k a0 = some r) :
    Calls Try.prog 37 #[.int .i64 a0] w fun e w' => e = .returned (.bool r) ∧ Drawn0 w w' := by
  have H : ((computusref02_Date.f k a0).bind fun bt152 => (if bt152.2.2.2 = 0 then (if bt152.1 ≥ (-4712) then (some (decide (bt152.1 ≤ 294276))) else (some false)) else (some false))) = some r := h
  clear h
  replace H := Option.bind_eq_some_iff.mp H
  obtain ⟨⟨t152, t153, t154, t155⟩, A20, H⟩ := H
  replace H : (if t155 = 0 then (if t152 ≥ (-4712) then (some (decide (t152 ≤ 294276))) else (some false)) else (some false)) = some r := H
  have A2 := Aside0.mk A20
  clear A20
  by_cases c3 : t155 = 0
  · rw [if_pos c3] at H
    have c3b0 : (t155 == 0) = true := beq_iff_eq.mpr c3
    have c3b1 : (t155 != 0) = false := bne_eq_false_iff_eq.mpr c3
    clear c3
    by_cases c4 : t152 ≥ (-4712)
    · rw [if_pos c4] at H
      have c4b0 : decide ((-4712) ≤ t152) = true := decide_eq_true c4
      clear c4
      obtain rfl := Option.some.inj H
      go_enter Try.func37, Try.ntmps37
      go_wp2_with (first | ((with_reducible refine kL (f := 39) rfl ?_); refine goesL_ (some 9) rfl rfl Try.func39 (by kernel_rfl) rfl #[.int .i64 a0] rfl (by (try simp only [List.map_toArray, List.map_cons, List.map_nil]); first | done | rfl | (simp only [List.length_drop, List.length_take]; rfl)) ?_; (with_reducible refine (computusref02_Date.calls k a0 t152 t153 t154 t155 _ A2.out).mono ?_); rintro e w' ⟨rfl, ⟨nd, rfl⟩⟩; refine ⟨_, rfl, ?_⟩))
      go_ret
      exact ⟨by first | rfl | (simp; done) | (simp [*]; done), by repeat (first | exact Drawn0.refl _ | apply Drawn0.step)⟩
    · rw [if_neg c4] at H
      have c4b0 : decide ((-4712) ≤ t152) = false := decide_eq_false c4
      clear c4
      obtain rfl := Option.some.inj H
      go_enter Try.func37, Try.ntmps37
      go_wp2_with (first | ((with_reducible refine kL (f := 39) rfl ?_); refine goesL_ (some 9) rfl rfl Try.func39 (by kernel_rfl) rfl #[.int .i64 a0] rfl (by (try simp only [List.map_toArray, List.map_cons, List.map_nil]); first | done | rfl | (simp only [List.length_drop, List.length_take]; rfl)) ?_; (with_reducible refine (computusref02_Date.calls k a0 t152 t153 t154 t155 _ A2.out).mono ?_); rintro e w' ⟨rfl, ⟨nd, rfl⟩⟩; refine ⟨_, rfl, ?_⟩))
      go_ret
      exact ⟨by first | rfl | (simp; done) | (simp [*]; done), by repeat (first | exact Drawn0.refl _ | apply Drawn0.step)⟩
  · rw [if_neg c3] at H
    have c3b0 : (t155 == 0) = false := beq_eq_false_iff_ne.mpr c3
    have c3b1 : (t155 != 0) = true := bne_iff_ne.mpr c3
    obtain rfl := Option.some.inj H
    go_enter Try.func37, Try.ntmps37
    go_wp2_with (first | ((with_reducible refine kL (f := 39) rfl ?_); refine goesL_ (some 9) rfl rfl Try.func39 (by kernel_rfl) rfl #[.int .i64 a0] rfl (by (try simp only [List.map_toArray, List.map_cons, List.map_nil]); first | done | rfl | (simp only [List.length_drop, List.length_take]; rfl)) ?_; (with_reducible refine (computusref02_Date.calls k a0 t152 t153 t154 t155 _ A2.out).mono ?_); rintro e w' ⟨rfl, ⟨nd, rfl⟩⟩; refine ⟨_, rfl, ?_⟩))
    go_ret
    exact ⟨by first | rfl | (simp; done) | (simp [*]; done), by repeat (first | exact Drawn0.refl _ | apply Drawn0.step)⟩
noncomputable def computusref15_inside.con (k : Nat) : Con
  | [.int .i64 a0] => some ((computusref15_inside.f k a0).isSome, .bool (gd (computusref15_inside.f k a0)))
  | _ => none
set_option maxRecDepth 100000 in
theorem computusref15_inside.cok (k : Nat) : COk Try.prog 37 (computusref15_inside.con k) := by
  intro args p v hc hp w A hA
  unfold computusref15_inside.con at hc
  split at hc
  · rename_i a0
    simp only [Option.some.injEq, Prod.mk.injEq] at hc
    obtain ⟨rfl, rfl⟩ := hc
    rcases hf : computusref15_inside.f k a0 with _ | r
    · rw [hf] at hp; cases hp
    obtain rfl : A = [.int .i64 a0] := by simpa [rl_cons, rl_nil, rv_int, rv_bool, rv_str, rv_agg, rv_fn] using hA
    exact gives_of_calls (fn := Try.f37) Try.func37 (by kernel_rfl) (by kernel_rfl) (computusref15_inside.calls _ _ _ w hf) (fun _ => by simp [gd_some, rl_cons, rl_nil, rv_int, rv_bool, rv_str, rv_agg, rv_tup]) (fun _ h => h.below)
  · cases hc
theorem computusref15_inside.up {k : Nat} {a0 : Int} {r : Bool} (h : computusref15_inside.f k a0 = some r) : computusref15_inside.f (k + 1) a0 = some r := computusref15_inside.mono a0 k _ h
def day_Right.f (a0_0 : Int) (a0_1 : Int) : Option (Bool) := if (a0_0 == (-1) && (a0_1 == 0)) = true then (some true) else (if (a0_0 == 1 && (a0_1 == 0)) = true then (some true) else (if a0_0 = 0 then ((day_inside.f a0_1).bind fun t163 => (some t163)) else (some false)))
set_option maxRecDepth 100000 in
theorem day_Right.vc (a0_0 : Int) (a0_1 : Int) (K : AV → Prop) : afv PA Try.prog (tab [(40, day_inside.con)]) noLoops 2 13 [.agg [.int .i64 a0_0, .int .i64 a0_1]] K = (brc (a0_0 == -1 && (a0_1 == 0 && true)) (K (AV.bool true)) (brc (a0_0 == 1 && (a0_1 == 0 && true)) (K (AV.bool true)) (brc (a0_0 == 0) (brc (Option.isSome (day_inside.f a0_1)) (∀ (m0 : Bool), m0 = gd (day_inside.f a0_1) → K (AV.bool m0)) False) (K (AV.bool false))))) := by kernel_rfl
set_option maxHeartbeats 1000000 in
set_option maxRecDepth 100000 in
theorem day_Right.calls (a0_0 : Int) (a0_1 : Int) (r : Bool) (w : World) (h : day_Right.f a0_0 a0_1 = some r) :
    Calls Try.prog 13 #[.agg #[.int .i64 a0_0, .int .i64 a0_1]] w fun e w' => e = .returned (.bool r) ∧ Below w.heap.size w w' := by
  refine calls_of_vc (A := [.agg #[.int .i64 a0_0, .int .i64 a0_1]]) (v := .bool r) (tab_cons (day_inside.cok) (tab_nil)) ((day_Right.vc a0_0 a0_1 _).mpr ?_) (by simp [rl_cons, rl_nil, rv_int, rv_bool, rv_str, rv_agg, rv_fn]) (fun ρ V' hV => by simpa [rl_cons, rl_nil, rv_int, rv_bool, rv_str, rv_agg, rv_tup] using hV)
  unfold day_Right.f at h
  simp only [bne, Option.bind_eq_some_iff, ite_some_iff] at h
  simp only [bne, brc_iff, wrap_i64]
  first
    | grind (splits := 60) [gd_some]
    | ((repeat' (first | (have or_ : Or _ _ := h; clear or_; rcases h with h | h) | (have or_ : Exists _ := h; clear or_; obtain ⟨_, h⟩ := h) | (have or_ : And _ _ := h; clear or_; obtain ⟨_, h⟩ := h))) <;> simp only [Option.some.injEq, Prod.mk.injEq, reduceCtorEq] at h <;> (try subst_vars) <;> simp_all [gd_some] <;> (try omega) <;> done)
    | (intros; subst_vars; simp_all [gd_some]; done)
noncomputable def day_Right.con : Con
  | [.agg [.int .i64 a0_0, .int .i64 a0_1]] => some ((day_Right.f a0_0 a0_1).isSome, .bool (gd (day_Right.f a0_0 a0_1)))
  | _ => none
set_option maxRecDepth 100000 in
theorem day_Right.cok : COk Try.prog 13 (day_Right.con) := by
  intro args p v hc hp w A hA
  unfold day_Right.con at hc
  split at hc
  · rename_i a0_0 a0_1
    simp only [Option.some.injEq, Prod.mk.injEq] at hc
    obtain ⟨rfl, rfl⟩ := hc
    rcases hf : day_Right.f a0_0 a0_1 with _ | r
    · rw [hf] at hp; cases hp
    obtain rfl : A = [.agg #[.int .i64 a0_0, .int .i64 a0_1]] := by simpa [rl_cons, rl_nil, rv_int, rv_bool, rv_str, rv_agg, rv_fn] using hA
    exact gives_of_calls (fn := Try.f13) Try.func13 (by kernel_rfl) (by kernel_rfl) (day_Right.calls _ _ _ w hf) (fun _ => by simp [gd_some, rl_cons, rl_nil, rv_int, rv_bool, rv_str, rv_agg, rv_tup]) (fun _ h => h)
  · cases hc
def day_Parts.f (a0_0 : Int) (a0_1 : Int) : Option (Int × Int × Int × Int) := (day_Right.f a0_0 a0_1).bind fun t165 => (if t165 = true then (if a0_0 = 0 then ((civil_Date.f a0_1).bind fun bt166 => (some (bt166.1, bt166.2.1, bt166.2.2.1, bt166.2.2.2))) else (some (0, 0, 0, 10))) else (some (0, 0, 0, 1)))
set_option maxRecDepth 100000 in
theorem day_Parts.vc (a0_0 : Int) (a0_1 : Int) (K : AV → Prop) : afv PA Try.prog (tab [(13, day_Right.con), (38, civil_Date.con)]) noLoops 2 11 [.agg [.int .i64 a0_0, .int .i64 a0_1]] K = (brc (Option.isSome (day_Right.f a0_0 a0_1)) (∀ (m0 : Bool), m0 = gd (day_Right.f a0_0 a0_1) → brc (!m0) (K (AV.tup [AV.int IntKind.i64 0, AV.int IntKind.i64 0, AV.int IntKind.i64 0, AV.int IntKind.i64 1])) (brc (a0_0 != 0) (K (AV.tup [AV.int IntKind.i64 0, AV.int IntKind.i64 0, AV.int IntKind.i64 0, AV.int IntKind.i64 10])) (brc (Option.isSome (civil_Date.f a0_1)) (∀ (m1 : Int), m1 = Prod.fst (gd (civil_Date.f a0_1)) → ∀ (m2 : Int), m2 = Prod.fst (Prod.snd (gd (civil_Date.f a0_1))) → ∀ (m3 : Int), m3 = Prod.fst (Prod.snd (Prod.snd (gd (civil_Date.f a0_1)))) → ∀ (m4 : Int), m4 = Prod.snd (Prod.snd (Prod.snd (gd (civil_Date.f a0_1)))) → K (AV.tup [AV.int IntKind.i64 m1, AV.int IntKind.i64 m2, AV.int IntKind.i64 m3, AV.int IntKind.i64 m4])) False))) False) := by kernel_rfl
set_option maxHeartbeats 1000000 in
set_option maxRecDepth 100000 in
theorem day_Parts.calls (a0_0 : Int) (a0_1 : Int) (r1 : Int) (r2 : Int) (r3 : Int) (r4 : Int) (w : World) (h : day_Parts.f a0_0 a0_1 = some (r1, r2, r3, r4)) :
    Calls Try.prog 11 #[.agg #[.int .i64 a0_0, .int .i64 a0_1]] w fun e w' => e = .returned (.tuple #[.int .i64 r1, .int .i64 r2, .int .i64 r3, .int .i64 r4]) ∧ Below w.heap.size w w' := by
  refine calls_of_vc (A := [.agg #[.int .i64 a0_0, .int .i64 a0_1]]) (v := .tup [.int .i64 r1, .int .i64 r2, .int .i64 r3, .int .i64 r4]) (tab_cons (day_Right.cok) (tab_cons (civil_Date.cok) (tab_nil))) ((day_Parts.vc a0_0 a0_1 _).mpr ?_) (by simp [rl_cons, rl_nil, rv_int, rv_bool, rv_str, rv_agg, rv_fn]) (fun ρ V' hV => by simpa [rl_cons, rl_nil, rv_int, rv_bool, rv_str, rv_agg, rv_tup] using hV)
  unfold day_Parts.f at h
  simp only [bne, Option.bind_eq_some_iff, ite_some_iff] at h
  simp only [bne, brc_iff, wrap_i64]
  first
    | grind (splits := 60) [gd_some]
    | ((repeat' (first | (have or_ : Or _ _ := h; clear or_; rcases h with h | h) | (have or_ : Exists _ := h; clear or_; obtain ⟨_, h⟩ := h) | (have or_ : And _ _ := h; clear or_; obtain ⟨_, h⟩ := h))) <;> simp only [Option.some.injEq, Prod.mk.injEq, reduceCtorEq] at h <;> (try subst_vars) <;> simp_all [gd_some] <;> (try omega) <;> done)
    | (intros; subst_vars; simp_all [gd_some]; done)
noncomputable def day_Parts.con : Con
  | [.agg [.int .i64 a0_0, .int .i64 a0_1]] => some ((day_Parts.f a0_0 a0_1).isSome, .tup [.int .i64 (gd (day_Parts.f a0_0 a0_1)).1, .int .i64 (gd (day_Parts.f a0_0 a0_1)).2.1, .int .i64 (gd (day_Parts.f a0_0 a0_1)).2.2.1, .int .i64 (gd (day_Parts.f a0_0 a0_1)).2.2.2])
  | _ => none
set_option maxRecDepth 100000 in
theorem day_Parts.cok : COk Try.prog 11 (day_Parts.con) := by
  intro args p v hc hp w A hA
  unfold day_Parts.con at hc
  split at hc
  · rename_i a0_0 a0_1
    simp only [Option.some.injEq, Prod.mk.injEq] at hc
    obtain ⟨rfl, rfl⟩ := hc
    rcases hf : day_Parts.f a0_0 a0_1 with _ | ⟨r1, r2, r3, r4⟩
    · rw [hf] at hp; cases hp
    obtain rfl : A = [.agg #[.int .i64 a0_0, .int .i64 a0_1]] := by simpa [rl_cons, rl_nil, rv_int, rv_bool, rv_str, rv_agg, rv_fn] using hA
    exact gives_of_calls (fn := Try.f11) Try.func11 (by kernel_rfl) (by kernel_rfl) (day_Parts.calls _ _ _ _ _ _ w hf) (fun _ => by simp [gd_some, rl_cons, rl_nil, rv_int, rv_bool, rv_str, rv_agg, rv_tup]) (fun _ h => h)
  · cases hc
end Go.Proofs.Ytgjbdojpncmmlaa.P
