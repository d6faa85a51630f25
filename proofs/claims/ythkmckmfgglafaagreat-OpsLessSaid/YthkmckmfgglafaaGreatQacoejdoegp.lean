-- Written by a program of the session (a print of the seat's translation, functions given by hand among it). Lean checks it.
import Derived.Test.YthkmckmfgglafaaGreatQefmlpbeiik
import Derived.Test.YthkmckmfgglafaaGreatQandhgkkbfd
namespace Go.Proofs.YthkmckmfgglafaaGreat.P
open Go.RowKit Go.Proofs.YthkmckmfgglafaaGreatW.PrintWords Go.Proofs.YthkmckmfgglafaaGreatW.PrintLast Go.Proofs.YthkmckmfgglafaaGreatW.PrintMore
open Go.Proofs.YthkmckmfgglafaaGreat.A
attribute [local go_sem] max2_int min2_int max_two min_two max_three min_three max_four min_four   -- for this text's walks alone
set_option linter.unusedVariables false
set_option linter.unusedSimpArgs false
def num_Div.f (k : Nat) (a0 : Int) (a1 : Int) : Option (Int × Int) := (num_Scale.f k a0 1 a1).bind fun bt123 => (some (bt123.1, bt123.2))
theorem num_Div.mono : ∀ a0 a1 k, LeO (num_Div.f k a0 a1) (num_Div.f (k + 1) a0 a1) := by
  intro a0 a1 k
  unfold num_Div.f
  repeat' first
      | (with_reducible exact num_Scale.mono _ _ _ _)
      | (with_reducible exact LeO.refl _)
      | (with_reducible exact LeO.none _)
      | (with_reducible refine LeO.ite ?_ ?_)
      | (with_reducible refine LeO.bind ?_ (fun _ => ?_))
      | exact num_Scale.mono _ _ _ _
      | exact LeO.none _
      | refine LeO.ite ?_ ?_
      | refine LeO.bind ?_ (fun _ => ?_)
set_option maxHeartbeats 8000000 in
set_option maxRecDepth 100000 in
theorem num_Div.calls (k : Nat) (a0 : Int) (a1 : Int) (r1 : Int) (r2 : Int) (w : World) (h : num_Div.f k a0 a1 = some (r1, r2)) :
    Calls Tryz.prog 87 #[.int .i64 a0, .int .i64 a1] w fun e w' => e = .returned (.tuple #[.int .i64 r1, .int .i64 r2]) ∧ Below w.heap.size w w' := by
  have HB := Aside0.mk (Below.refl w.heap.size w)
  have H : ((num_Scale.f k a0 1 a1).bind fun bt123 => (some (bt123.1, bt123.2))) = some (r1, r2) := h
  clear h
  replace H := Option.bind_eq_some_iff.mp H
  obtain ⟨⟨t123, t124⟩, A30, H⟩ := H
  replace H : (some (t123, t124)) = some (r1, r2) := H
  have A3 := Aside0.mk A30
  clear A30
  simp only [Option.some.injEq, Prod.mk.injEq] at H
  obtain ⟨rfl, rfl⟩ := H
  go_enter Tryz.func87, Tryz.ntmps87
  go_wp2_with (first | ((with_reducible refine kM (f := 128) rfl ?_); refine goesL_ (some 8) rfl rfl Tryz.func128 (by kernel_rfl) rfl #[.int .i64 a0, .int .i64 1, .int .i64 a1] rfl (by (try simp only [List.map_toArray, List.map_cons, List.map_nil]); first | done | rfl | (simp only [List.length_drop, List.length_take]; rfl)) ?_; (with_reducible refine (num_Scale.calls k a0 1 a1 t123 t124 _ A3.out).mono ?_); rintro e w4 ⟨rfl, hb⟩; refine ⟨_, rfl, ?_⟩; have n0_ := Aside0.mk (kK (by repeat (first | (with_reducible first | exact HB.out | apply kC | apply kA | apply kB) | exact HB.out)) hb); clear HB; have HB := n0_; clear n0_; (try clear hb); (try clear hb2); (try clear hk); (try clear hi)))
  go_ret2
  exact ⟨by first | rfl | (simp [errW_none, errW_some] <;> rfl) | (simp [*, errW_none, errW_some] <;> rfl), by repeat (first | (with_reducible first | exact HB.out | apply kC | apply kA | apply kB) | exact HB.out)⟩
def num_Split.f (k : Nat) (a0 : Int) : Option (Int × Int) := (num_Div.f k a0 86400000000).bind fun bt125 => ((num_Mod.f a0 86400000000).bind fun bt127 => (some (bt125.1, bt127.1)))
theorem num_Split.mono : ∀ a0 k, LeO (num_Split.f k a0) (num_Split.f (k + 1) a0) := by
  intro a0 k
  unfold num_Split.f
  repeat' first
      | (with_reducible exact num_Div.mono _ _ _)
      | (with_reducible exact LeO.refl _)
      | (with_reducible exact LeO.none _)
      | (with_reducible refine LeO.ite ?_ ?_)
      | (with_reducible refine LeO.bind ?_ (fun _ => ?_))
      | exact num_Div.mono _ _ _
      | exact LeO.none _
      | refine LeO.ite ?_ ?_
      | refine LeO.bind ?_ (fun _ => ?_)
set_option maxHeartbeats 8000000 in
set_option maxRecDepth 100000 in
theorem num_Split.calls (k : Nat) (a0 : Int) (r1 : Int) (r2 : Int) (w : World) (h : num_Split.f k a0 = some (r1, r2)) :
    Calls Tryz.prog 84 #[.int .i64 a0] w fun e w' => e = .returned (.tuple #[.int .i64 r1, .int .i64 r2]) ∧ Below w.heap.size w w' := by
  have HB := Aside0.mk (Below.refl w.heap.size w)
  have H : ((num_Div.f k a0 86400000000).bind fun bt125 => ((num_Mod.f a0 86400000000).bind fun bt127 => (some (bt125.1, bt127.1)))) = some (r1, r2) := h
  clear h
  replace H := Option.bind_eq_some_iff.mp H
  obtain ⟨⟨t125, t126⟩, A20, H⟩ := H
  replace H : ((num_Mod.f a0 86400000000).bind fun bt127 => (some (t125, bt127.1))) = some (r1, r2) := H
  have A2 := Aside0.mk A20
  clear A20
  replace H := Option.bind_eq_some_iff.mp H
  obtain ⟨⟨t127, t128⟩, A30, H⟩ := H
  replace H : (some (t125, t127)) = some (r1, r2) := H
  have A3 := Aside0.mk A30
  clear A30
  simp only [Option.some.injEq, Prod.mk.injEq] at H
  obtain ⟨rfl, rfl⟩ := H
  go_enter Tryz.func84, Tryz.ntmps84
  go_wp2_with (first | ((with_reducible refine kM (f := 87) rfl ?_); refine goesL_ (some 10) rfl rfl Tryz.func87 (by kernel_rfl) rfl #[.int .i64 a0, .int .i64 86400000000] rfl (by (try simp only [List.map_toArray, List.map_cons, List.map_nil]); first | done | rfl | (simp only [List.length_drop, List.length_take]; rfl)) ?_; (with_reducible refine (num_Div.calls k a0 86400000000 t125 t126 _ A2.out).mono ?_); rintro e w4 ⟨rfl, hb⟩; refine ⟨_, rfl, ?_⟩; have n0_ := Aside0.mk (kK (by repeat (first | (with_reducible first | exact HB.out | apply kC | apply kA | apply kB) | exact HB.out)) hb); clear HB; have HB := n0_; clear n0_; (try clear hb); (try clear hb2); (try clear hk); (try clear hi)) | ((with_reducible refine kM (f := 47) rfl ?_); refine goesL_ (some 15) rfl rfl Tryz.func47 (by kernel_rfl) rfl #[.int .i64 a0, .int .i64 86400000000] rfl (by (try simp only [List.map_toArray, List.map_cons, List.map_nil]); first | done | rfl | (simp only [List.length_drop, List.length_take]; rfl)) ?_; (with_reducible refine (num_Mod.calls a0 86400000000 t127 t128 _ A3.out).mono ?_); rintro e w' ⟨rfl, ⟨nd, rfl⟩⟩; refine ⟨_, rfl, ?_⟩))
  go_ret2
  exact ⟨by first | rfl | (simp [errW_none, errW_some] <;> rfl) | (simp [*, errW_none, errW_some] <;> rfl), by repeat (first | (with_reducible first | exact HB.out | apply kC | apply kA | apply kB) | exact HB.out)⟩
noncomputable def num_Split.con (k : Nat) : Con
  | [.int .i64 a0] => some ((num_Split.f k a0).isSome, .tup [.int .i64 (gd (num_Split.f k a0)).1, .int .i64 (gd (num_Split.f k a0)).2])
  | _ => none
set_option maxRecDepth 100000 in
theorem num_Split.cok (k : Nat) : COk Tryz.prog 84 (num_Split.con k) := by
  intro args p v hc hp w A hA
  unfold num_Split.con at hc
  split at hc
  · rename_i a0
    simp only [Option.some.injEq, Prod.mk.injEq] at hc
    obtain ⟨rfl, rfl⟩ := hc
    rcases hf : num_Split.f k a0 with _ | ⟨r1, r2⟩
    · rw [hf] at hp; cases hp
    obtain rfl : A = [.int .i64 a0] := by simpa [rl_cons, rl_nil, rv_int, rv_bool, rv_str, rv_agg, rv_fn] using hA
    exact gives_of_calls (fn := Tryz.f84) Tryz.func84 (by kernel_rfl) (by kernel_rfl) (num_Split.calls _ _ _ _ w hf) (fun _ => by simp [gd_some, rl_cons, rl_nil, rv_int, rv_bool, rv_str, rv_agg, rv_tup]) (fun _ h => h)
  · cases hc
def civil_floor.f (a0 : Int) (a1 : Int) : Option (Int × Int) := if a1 = 0 then (none) else (if (Int.tmod a0 a1) < 0 then (some (wrap64 ((wrap64 (Int.tdiv a0 a1)) - 1), wrap64 ((Int.tmod a0 a1) + a1))) else (some (wrap64 (Int.tdiv a0 a1), Int.tmod a0 a1)))
set_option maxHeartbeats 8000000 in
set_option maxRecDepth 100000 in
theorem civil_floor.calls (a0 : Int) (a1 : Int) (r1 : Int) (r2 : Int) (w : World) (h : civil_floor.f a0 a1 = some (r1, r2)) :
    Calls Tryz.prog 88 #[.int .i64 a0, .int .i64 a1] w fun e w' => e = .returned (.tuple #[.int .i64 r1, .int .i64 r2]) ∧ Drawn0 w w' := by
  have H : (if a1 = 0 then (none) else (if (Int.tmod a0 a1) < 0 then (some (wrap64 ((wrap64 (Int.tdiv a0 a1)) - 1), wrap64 ((Int.tmod a0 a1) + a1))) else (some (wrap64 (Int.tdiv a0 a1), Int.tmod a0 a1)))) = some (r1, r2) := h
  clear h
  by_cases c3 : a1 = 0
  · rw [if_pos c3] at H
    exact absurd H (by simp)
  · rw [if_neg c3] at H
    have c3b0 : (a1 == 0) = false := beq_eq_false_iff_ne.mpr c3
    have c3b1 : (a1 != 0) = true := bne_iff_ne.mpr c3
    by_cases c4 : (Int.tmod a0 a1) < 0
    · rw [if_pos c4] at H
      have c4b0 : decide ((Int.tmod a0 a1) < 0) = true := decide_eq_true c4
      clear c4
      simp only [Option.some.injEq, Prod.mk.injEq] at H
      obtain ⟨rfl, rfl⟩ := H
      go_enter Tryz.func88, Tryz.ntmps88
      go_wp2
      repeat (go_quiet (fail); try go_wp2)
      go_ret2
      exact ⟨by first | rfl | (simp; done) | (simp [*]; done), by repeat (first | exact Drawn0.refl _ | apply Drawn0.step)⟩
    · rw [if_neg c4] at H
      have c4b0 : decide ((Int.tmod a0 a1) < 0) = false := decide_eq_false c4
      clear c4
      simp only [Option.some.injEq, Prod.mk.injEq] at H
      obtain ⟨rfl, rfl⟩ := H
      go_enter Tryz.func88, Tryz.ntmps88
      go_wp2
      repeat (go_quiet (fail); try go_wp2)
      go_ret2
      exact ⟨by first | rfl | (simp; done) | (simp [*]; done), by repeat (first | exact Drawn0.refl _ | apply Drawn0.step)⟩
def civil_day.f (a0 : Int) (a1 : Int) (a2 : Int) : Option (Int) := if a1 ≤ 2 then ((civil_floor.f (wrap64 (a0 - 1)) 400).bind fun bt129 => (some (wrap64 ((wrap64 ((wrap64 ((wrap64 ((wrap64 ((wrap64 ((wrap64 ((wrap64 (bt129.1 * 146097)) + (wrap64 (bt129.2 * 365)))) + (wrap64 (Int.tdiv bt129.2 4)))) - (wrap64 (Int.tdiv bt129.2 100)))) + (wrap64 (Int.tdiv (wrap64 ((wrap64 (153 * (wrap64 ((wrap64 (a1 + 12)) - 3)))) + 2)) 5)))) + a2)) - 1)) - 730425)))) else ((civil_floor.f a0 400).bind fun bt131 => (some (wrap64 ((wrap64 ((wrap64 ((wrap64 ((wrap64 ((wrap64 ((wrap64 ((wrap64 (bt131.1 * 146097)) + (wrap64 (bt131.2 * 365)))) + (wrap64 (Int.tdiv bt131.2 4)))) - (wrap64 (Int.tdiv bt131.2 100)))) + (wrap64 (Int.tdiv (wrap64 ((wrap64 (153 * (wrap64 (a1 - 3)))) + 2)) 5)))) + a2)) - 1)) - 730425))))
set_option maxHeartbeats 8000000 in
set_option maxRecDepth 100000 in
theorem civil_day.calls (a0 : Int) (a1 : Int) (a2 : Int) (r : Int) (w : World) (h : civil_day.f a0 a1 a2 = some r) :
    Calls Tryz.prog 132 #[.int .i64 a0, .int .i64 a1, .int .i64 a2] w fun e w' => e = .returned (.int .i64 r) ∧ Drawn0 w w' := by
  have H : (if a1 ≤ 2 then ((civil_floor.f (wrap64 (a0 - 1)) 400).bind fun bt129 => (some (wrap64 ((wrap64 ((wrap64 ((wrap64 ((wrap64 ((wrap64 ((wrap64 ((wrap64 (bt129.1 * 146097)) + (wrap64 (bt129.2 * 365)))) + (wrap64 (Int.tdiv bt129.2 4)))) - (wrap64 (Int.tdiv bt129.2 100)))) + (wrap64 (Int.tdiv (wrap64 ((wrap64 (153 * (wrap64 ((wrap64 (a1 + 12)) - 3)))) + 2)) 5)))) + a2)) - 1)) - 730425)))) else ((civil_floor.f a0 400).bind fun bt131 => (some (wrap64 ((wrap64 ((wrap64 ((wrap64 ((wrap64 ((wrap64 ((wrap64 ((wrap64 (bt131.1 * 146097)) + (wrap64 (bt131.2 * 365)))) + (wrap64 (Int.tdiv bt131.2 4)))) - (wrap64 (Int.tdiv bt131.2 100)))) + (wrap64 (Int.tdiv (wrap64 ((wrap64 (153 * (wrap64 (a1 - 3)))) + 2)) 5)))) + a2)) - 1)) - 730425))))) = some r := h
  clear h
  by_cases c4 : a1 ≤ 2
  · rw [if_pos c4] at H
    have c4b0 : decide (a1 ≤ 2) = true := decide_eq_true c4
    clear c4
    replace H := Option.bind_eq_some_iff.mp H
    obtain ⟨⟨t129, t130⟩, A50, H⟩ := H
    replace H : (some (wrap64 ((wrap64 ((wrap64 ((wrap64 ((wrap64 ((wrap64 ((wrap64 ((wrap64 (t129 * 146097)) + (wrap64 (t130 * 365)))) + (wrap64 (Int.tdiv t130 4)))) - (wrap64 (Int.tdiv t130 100)))) + (wrap64 (Int.tdiv (wrap64 ((wrap64 (153 * (wrap64 ((wrap64 (a1 + 12)) - 3)))) + 2)) 5)))) + a2)) - 1)) - 730425))) = some r := H
    have A5 := Aside0.mk A50
    clear A50
    obtain rfl := Option.some.inj H
    go_enter Tryz.func132, Tryz.ntmps132
    go_wp2_with (first | ((with_reducible refine kM (f := 88) rfl ?_); refine goesL_ (some 17) rfl rfl Tryz.func88 (by kernel_rfl) rfl #[.int .i64 (wrap64 (a0 - 1)), .int .i64 400] rfl (by (try simp only [List.map_toArray, List.map_cons, List.map_nil]); first | done | rfl | (simp only [List.length_drop, List.length_take]; rfl)) ?_; (with_reducible refine (civil_floor.calls (wrap64 (a0 - 1)) 400 t129 t130 _ A5.out).mono ?_); rintro e w' ⟨rfl, ⟨nd, rfl⟩⟩; refine ⟨_, rfl, ?_⟩))
    go_ret
    exact ⟨by first | rfl | (simp; done) | (simp [*]; done), by repeat (first | exact Drawn0.refl _ | apply Drawn0.step)⟩
  · rw [if_neg c4] at H
    have c4b0 : decide (a1 ≤ 2) = false := decide_eq_false c4
    clear c4
    replace H := Option.bind_eq_some_iff.mp H
    obtain ⟨⟨t131, t132⟩, A60, H⟩ := H
    replace H : (some (wrap64 ((wrap64 ((wrap64 ((wrap64 ((wrap64 ((wrap64 ((wrap64 ((wrap64 (t131 * 146097)) + (wrap64 (t132 * 365)))) + (wrap64 (Int.tdiv t132 4)))) - (wrap64 (Int.tdiv t132 100)))) + (wrap64 (Int.tdiv (wrap64 ((wrap64 (153 * (wrap64 (a1 - 3)))) + 2)) 5)))) + a2)) - 1)) - 730425))) = some r := H
    have A6 := Aside0.mk A60
    clear A60
    obtain rfl := Option.some.inj H
    go_enter Tryz.func132, Tryz.ntmps132
    go_wp2_with (first | ((with_reducible refine kM (f := 88) rfl ?_); refine goesL_ (some 17) rfl rfl Tryz.func88 (by kernel_rfl) rfl #[.int .i64 a0, .int .i64 400] rfl (by (try simp only [List.map_toArray, List.map_cons, List.map_nil]); first | done | rfl | (simp only [List.length_drop, List.length_take]; rfl)) ?_; (with_reducible refine (civil_floor.calls a0 400 t131 t132 _ A6.out).mono ?_); rintro e w' ⟨rfl, ⟨nd, rfl⟩⟩; refine ⟨_, rfl, ?_⟩))
    go_ret
    exact ⟨by first | rfl | (simp; done) | (simp [*]; done), by repeat (first | exact Drawn0.refl _ | apply Drawn0.step)⟩
noncomputable def civil_day.con : Con
  | [.int .i64 a0, .int .i64 a1, .int .i64 a2] => some ((civil_day.f a0 a1 a2).isSome, .int .i64 (gd (civil_day.f a0 a1 a2)))
  | _ => none
set_option maxRecDepth 100000 in
theorem civil_day.cok : COk Tryz.prog 132 (civil_day.con) := by
  intro args p v hc hp w A hA
  unfold civil_day.con at hc
  split at hc
  · rename_i a0 a1 a2
    simp only [Option.some.injEq, Prod.mk.injEq] at hc
    obtain ⟨rfl, rfl⟩ := hc
    rcases hf : civil_day.f a0 a1 a2 with _ | r
    · rw [hf] at hp; cases hp
    obtain rfl : A = [.int .i64 a0, .int .i64 a1, .int .i64 a2] := by simpa [rl_cons, rl_nil, rv_int, rv_bool, rv_str, rv_agg, rv_fn] using hA
    exact gives_of_calls (fn := Tryz.f132) Tryz.func132 (by kernel_rfl) (by kernel_rfl) (civil_day.calls _ _ _ _ w hf) (fun _ => by simp [gd_some, rl_cons, rl_nil, rv_int, rv_bool, rv_str, rv_agg, rv_tup]) (fun _ h => h.below)
  · cases hc
def civil_First.f  : Option (Int) := (civil_day.f (-4718) 1 1).bind fun t133 => (some t133)
set_option maxHeartbeats 8000000 in
set_option maxRecDepth 100000 in
theorem civil_First.calls  (r : Int) (w : World) (h : civil_First.f  = some r) :
    Calls Tryz.prog 147 #[] w fun e w' => e = .returned (.int .i64 r) ∧ Drawn0 w w' := by
  have H : ((civil_day.f (-4718) 1 1).bind fun t133 => (some t133)) = some r := h
  clear h
  replace H := Option.bind_eq_some_iff.mp H
  obtain ⟨t133, A10, H⟩ := H
  replace H : (some t133) = some r := H
  have A1 := Aside0.mk A10
  clear A10
  obtain rfl := Option.some.inj H
  go_enter Tryz.func147, Tryz.ntmps147
  go_wp2_with (first | ((with_reducible refine kM (f := 132) rfl ?_); refine goesL_ (some 1) rfl rfl Tryz.func132 (by kernel_rfl) rfl #[.int .i64 (-4718), .int .i64 1, .int .i64 1] rfl (by (try simp only [List.map_toArray, List.map_cons, List.map_nil]); first | done | rfl | (simp only [List.length_drop, List.length_take]; rfl)) ?_; (with_reducible refine (civil_day.calls (-4718) 1 1 t133 _ A1.out).mono ?_); rintro e w' ⟨rfl, ⟨nd, rfl⟩⟩; refine ⟨_, rfl, ?_⟩))
  go_ret
  exact ⟨by first | rfl | (simp; done) | (simp [*]; done), by repeat (first | exact Drawn0.refl _ | apply Drawn0.step)⟩
def civil_Last.f  : Option (Int) := (civil_day.f 294282 12 31).bind fun t134 => (some t134)
set_option maxHeartbeats 8000000 in
set_option maxRecDepth 100000 in
theorem civil_Last.calls  (r : Int) (w : World) (h : civil_Last.f  = some r) :
    Calls Tryz.prog 148 #[] w fun e w' => e = .returned (.int .i64 r) ∧ Drawn0 w w' := by
  have H : ((civil_day.f 294282 12 31).bind fun t134 => (some t134)) = some r := h
  clear h
  replace H := Option.bind_eq_some_iff.mp H
  obtain ⟨t134, A10, H⟩ := H
  replace H : (some t134) = some r := H
  have A1 := Aside0.mk A10
  clear A10
  obtain rfl := Option.some.inj H
  go_enter Tryz.func148, Tryz.ntmps148
  go_wp2_with (first | ((with_reducible refine kM (f := 132) rfl ?_); refine goesL_ (some 1) rfl rfl Tryz.func132 (by kernel_rfl) rfl #[.int .i64 294282, .int .i64 12, .int .i64 31] rfl (by (try simp only [List.map_toArray, List.map_cons, List.map_nil]); first | done | rfl | (simp only [List.length_drop, List.length_take]; rfl)) ?_; (with_reducible refine (civil_day.calls 294282 12 31 t134 _ A1.out).mono ?_); rintro e w' ⟨rfl, ⟨nd, rfl⟩⟩; refine ⟨_, rfl, ?_⟩))
  go_ret
  exact ⟨by first | rfl | (simp; done) | (simp [*]; done), by repeat (first | exact Drawn0.refl _ | apply Drawn0.step)⟩
def civil_can.f (a0 : Int) : Option (Bool) := (civil_First.f).bind fun t135 => (if a0 ≥ t135 then ((civil_Last.f).bind fun t136 => (some (decide (a0 ≤ t136)))) else (some false))
set_option maxHeartbeats 8000000 in
set_option maxRecDepth 100000 in
theorem civil_can.calls (a0 : Int) (r : Bool) (w : World) (h : civil_can.f a0 = some r) :
    Calls Tryz.prog 129 #[.int .i64 a0] w fun e w' => e = .returned (.bool r) ∧ Drawn0 w w' := by
  have H : ((civil_First.f).bind fun t135 => (if a0 ≥ t135 then ((civil_Last.f).bind fun t136 => (some (decide (a0 ≤ t136)))) else (some false))) = some r := h
  clear h
  replace H := Option.bind_eq_some_iff.mp H
  obtain ⟨t135, A20, H⟩ := H
  replace H : (if a0 ≥ t135 then ((civil_Last.f).bind fun t136 => (some (decide (a0 ≤ t136)))) else (some false)) = some r := H
  have A2 := Aside0.mk A20
  clear A20
  by_cases c3 : a0 ≥ t135
  · rw [if_pos c3] at H
    have c3b0 : decide (t135 ≤ a0) = true := decide_eq_true c3
    clear c3
    replace H := Option.bind_eq_some_iff.mp H
    obtain ⟨t136, A40, H⟩ := H
    replace H : (some (decide (a0 ≤ t136))) = some r := H
    have A4 := Aside0.mk A40
    clear A40
    obtain rfl := Option.some.inj H
    go_enter Tryz.func129, Tryz.ntmps129
    go_wp2_with (first | ((with_reducible refine kM (f := 147) rfl ?_); refine goesL_ (some 4) rfl rfl Tryz.func147 (by kernel_rfl) rfl #[] rfl (by (try simp only [List.map_toArray, List.map_cons, List.map_nil]); first | done | rfl | (simp only [List.length_drop, List.length_take]; rfl)) ?_; (with_reducible refine (civil_First.calls  t135 _ A2.out).mono ?_); rintro e w' ⟨rfl, ⟨nd, rfl⟩⟩; refine ⟨_, rfl, ?_⟩) | (go_at_call 148; (with_reducible refine (civil_Last.calls  t136 _ A4.out).mono ?_); rintro e w' ⟨rfl, ⟨nd, rfl⟩⟩))
    go_ret
    exact ⟨by first | rfl | (simp; done) | (simp [*]; done), by repeat (first | exact Drawn0.refl _ | apply Drawn0.step)⟩
  · rw [if_neg c3] at H
    have c3b0 : decide (t135 ≤ a0) = false := decide_eq_false c3
    clear c3
    obtain rfl := Option.some.inj H
    go_enter Tryz.func129, Tryz.ntmps129
    go_wp2_with (first | ((with_reducible refine kM (f := 147) rfl ?_); refine goesL_ (some 4) rfl rfl Tryz.func147 (by kernel_rfl) rfl #[] rfl (by (try simp only [List.map_toArray, List.map_cons, List.map_nil]); first | done | rfl | (simp only [List.length_drop, List.length_take]; rfl)) ?_; (with_reducible refine (civil_First.calls  t135 _ A2.out).mono ?_); rintro e w' ⟨rfl, ⟨nd, rfl⟩⟩; refine ⟨_, rfl, ?_⟩))
    go_ret
    exact ⟨by first | rfl | (simp; done) | (simp [*]; done), by repeat (first | exact Drawn0.refl _ | apply Drawn0.step)⟩
noncomputable def civil_can.con : Con
  | [.int .i64 a0] => some ((civil_can.f a0).isSome, .bool (gd (civil_can.f a0)))
  | _ => none
set_option maxRecDepth 100000 in
theorem civil_can.cok : COk Tryz.prog 129 (civil_can.con) := by
  intro args p v hc hp w A hA
  unfold civil_can.con at hc
  split at hc
  · rename_i a0
    simp only [Option.some.injEq, Prod.mk.injEq] at hc
    obtain ⟨rfl, rfl⟩ := hc
    rcases hf : civil_can.f a0 with _ | r
    · rw [hf] at hp; cases hp
    obtain rfl : A = [.int .i64 a0] := by simpa [rl_cons, rl_nil, rv_int, rv_bool, rv_str, rv_agg, rv_fn] using hA
    exact gives_of_calls (fn := Tryz.f129) Tryz.func129 (by kernel_rfl) (by kernel_rfl) (civil_can.calls _ _ w hf) (fun _ => by simp [gd_some, rl_cons, rl_nil, rv_int, rv_bool, rv_str, rv_agg, rv_tup]) (fun _ h => h.below)
  · cases hc
def civil_parts.f (a0 : Int) : Option (Int × Int × Int) := (civil_floor.f (wrap64 (a0 + 730425)) 146097).bind fun bt137 => (if (wrap64 (Int.tdiv (wrap64 ((wrap64 (5 * (wrap64 ((wrap64 ((wrap64 (bt137.2 - (wrap64 ((mn (wrap64 (Int.tdiv bt137.2 36524)) 3) * 36524)))) - (wrap64 ((wrap64 (Int.tdiv (wrap64 (bt137.2 - (wrap64 ((mn (wrap64 (Int.tdiv bt137.2 36524)) 3) * 36524)))) 1461)) * 1461)))) - (wrap64 ((mn (wrap64 (Int.tdiv (wrap64 ((wrap64 (bt137.2 - (wrap64 ((mn (wrap64 (Int.tdiv bt137.2 36524)) 3) * 36524)))) - (wrap64 ((wrap64 (Int.tdiv (wrap64 (bt137.2 - (wrap64 ((mn (wrap64 (Int.tdiv bt137.2 36524)) 3) * 36524)))) 1461)) * 1461)))) 365)) 3) * 365)))))) + 2)) 153)) ≥ 10 then (some (wrap64 ((wrap64 ((wrap64 ((wrap64 ((wrap64 (bt137.1 * 400)) + (wrap64 ((mn (wrap64 (Int.tdiv bt137.2 36524)) 3) * 100)))) + (wrap64 ((wrap64 (Int.tdiv (wrap64 (bt137.2 - (wrap64 ((mn (wrap64 (Int.tdiv bt137.2 36524)) 3) * 36524)))) 1461)) * 4)))) + (mn (wrap64 (Int.tdiv (wrap64 ((wrap64 (bt137.2 - (wrap64 ((mn (wrap64 (Int.tdiv bt137.2 36524)) 3) * 36524)))) - (wrap64 ((wrap64 (Int.tdiv (wrap64 (bt137.2 - (wrap64 ((mn (wrap64 (Int.tdiv bt137.2 36524)) 3) * 36524)))) 1461)) * 1461)))) 365)) 3))) + 1), wrap64 ((wrap64 (Int.tdiv (wrap64 ((wrap64 (5 * (wrap64 ((wrap64 ((wrap64 (bt137.2 - (wrap64 ((mn (wrap64 (Int.tdiv bt137.2 36524)) 3) * 36524)))) - (wrap64 ((wrap64 (Int.tdiv (wrap64 (bt137.2 - (wrap64 ((mn (wrap64 (Int.tdiv bt137.2 36524)) 3) * 36524)))) 1461)) * 1461)))) - (wrap64 ((mn (wrap64 (Int.tdiv (wrap64 ((wrap64 (bt137.2 - (wrap64 ((mn (wrap64 (Int.tdiv bt137.2 36524)) 3) * 36524)))) - (wrap64 ((wrap64 (Int.tdiv (wrap64 (bt137.2 - (wrap64 ((mn (wrap64 (Int.tdiv bt137.2 36524)) 3) * 36524)))) 1461)) * 1461)))) 365)) 3) * 365)))))) + 2)) 153)) - 9), wrap64 ((wrap64 ((wrap64 ((wrap64 ((wrap64 (bt137.2 - (wrap64 ((mn (wrap64 (Int.tdiv bt137.2 36524)) 3) * 36524)))) - (wrap64 ((wrap64 (Int.tdiv (wrap64 (bt137.2 - (wrap64 ((mn (wrap64 (Int.tdiv bt137.2 36524)) 3) * 36524)))) 1461)) * 1461)))) - (wrap64 ((mn (wrap64 (Int.tdiv (wrap64 ((wrap64 (bt137.2 - (wrap64 ((mn (wrap64 (Int.tdiv bt137.2 36524)) 3) * 36524)))) - (wrap64 ((wrap64 (Int.tdiv (wrap64 (bt137.2 - (wrap64 ((mn (wrap64 (Int.tdiv bt137.2 36524)) 3) * 36524)))) 1461)) * 1461)))) 365)) 3) * 365)))) - (wrap64 (Int.tdiv (wrap64 ((wrap64 (153 * (wrap64 (Int.tdiv (wrap64 ((wrap64 (5 * (wrap64 ((wrap64 ((wrap64 (bt137.2 - (wrap64 ((mn (wrap64 (Int.tdiv bt137.2 36524)) 3) * 36524)))) - (wrap64 ((wrap64 (Int.tdiv (wrap64 (bt137.2 - (wrap64 ((mn (wrap64 (Int.tdiv bt137.2 36524)) 3) * 36524)))) 1461)) * 1461)))) - (wrap64 ((mn (wrap64 (Int.tdiv (wrap64 ((wrap64 (bt137.2 - (wrap64 ((mn (wrap64 (Int.tdiv bt137.2 36524)) 3) * 36524)))) - (wrap64 ((wrap64 (Int.tdiv (wrap64 (bt137.2 - (wrap64 ((mn (wrap64 (Int.tdiv bt137.2 36524)) 3) * 36524)))) 1461)) * 1461)))) 365)) 3) * 365)))))) + 2)) 153)))) + 2)) 5)))) + 1))) else (some (wrap64 ((wrap64 ((wrap64 ((wrap64 (bt137.1 * 400)) + (wrap64 ((mn (wrap64 (Int.tdiv bt137.2 36524)) 3) * 100)))) + (wrap64 ((wrap64 (Int.tdiv (wrap64 (bt137.2 - (wrap64 ((mn (wrap64 (Int.tdiv bt137.2 36524)) 3) * 36524)))) 1461)) * 4)))) + (mn (wrap64 (Int.tdiv (wrap64 ((wrap64 (bt137.2 - (wrap64 ((mn (wrap64 (Int.tdiv bt137.2 36524)) 3) * 36524)))) - (wrap64 ((wrap64 (Int.tdiv (wrap64 (bt137.2 - (wrap64 ((mn (wrap64 (Int.tdiv bt137.2 36524)) 3) * 36524)))) 1461)) * 1461)))) 365)) 3)), wrap64 ((wrap64 (Int.tdiv (wrap64 ((wrap64 (5 * (wrap64 ((wrap64 ((wrap64 (bt137.2 - (wrap64 ((mn (wrap64 (Int.tdiv bt137.2 36524)) 3) * 36524)))) - (wrap64 ((wrap64 (Int.tdiv (wrap64 (bt137.2 - (wrap64 ((mn (wrap64 (Int.tdiv bt137.2 36524)) 3) * 36524)))) 1461)) * 1461)))) - (wrap64 ((mn (wrap64 (Int.tdiv (wrap64 ((wrap64 (bt137.2 - (wrap64 ((mn (wrap64 (Int.tdiv bt137.2 36524)) 3) * 36524)))) - (wrap64 ((wrap64 (Int.tdiv (wrap64 (bt137.2 - (wrap64 ((mn (wrap64 (Int.tdiv bt137.2 36524)) 3) * 36524)))) 1461)) * 1461)))) 365)) 3) * 365)))))) + 2)) 153)) + 3), wrap64 ((wrap64 ((wrap64 ((wrap64 ((wrap64 (bt137.2 - (wrap64 ((mn (wrap64 (Int.tdiv bt137.2 36524)) 3) * 36524)))) - (wrap64 ((wrap64 (Int.tdiv (wrap64 (bt137.2 - (wrap64 ((mn (wrap64 (Int.tdiv bt137.2 36524)) 3) * 36524)))) 1461)) * 1461)))) - (wrap64 ((mn (wrap64 (Int.tdiv (wrap64 ((wrap64 (bt137.2 - (wrap64 ((mn (wrap64 (Int.tdiv bt137.2 36524)) 3) * 36524)))) - (wrap64 ((wrap64 (Int.tdiv (wrap64 (bt137.2 - (wrap64 ((mn (wrap64 (Int.tdiv bt137.2 36524)) 3) * 36524)))) 1461)) * 1461)))) 365)) 3) * 365)))) - (wrap64 (Int.tdiv (wrap64 ((wrap64 (153 * (wrap64 (Int.tdiv (wrap64 ((wrap64 (5 * (wrap64 ((wrap64 ((wrap64 (bt137.2 - (wrap64 ((mn (wrap64 (Int.tdiv bt137.2 36524)) 3) * 36524)))) - (wrap64 ((wrap64 (Int.tdiv (wrap64 (bt137.2 - (wrap64 ((mn (wrap64 (Int.tdiv bt137.2 36524)) 3) * 36524)))) 1461)) * 1461)))) - (wrap64 ((mn (wrap64 (Int.tdiv (wrap64 ((wrap64 (bt137.2 - (wrap64 ((mn (wrap64 (Int.tdiv bt137.2 36524)) 3) * 36524)))) - (wrap64 ((wrap64 (Int.tdiv (wrap64 (bt137.2 - (wrap64 ((mn (wrap64 (Int.tdiv bt137.2 36524)) 3) * 36524)))) 1461)) * 1461)))) 365)) 3) * 365)))))) + 2)) 153)))) + 2)) 5)))) + 1))))
set_option maxHeartbeats 8000000 in
set_option maxRecDepth 100000 in
theorem civil_parts.calls (a0 : Int) (r1 : Int) (r2 : Int) (r3 : Int) (w : World) (h : civil_parts.f a0 = some (r1, r2, r3)) :
    Calls Tryz.prog 130 #[.int .i64 a0] w fun e w' => e = .returned (.tuple #[.int .i64 r1, .int .i64 r2, .int .i64 r3]) ∧ Below w.heap.size w w' := by
  have HB := Aside0.mk (Below.refl w.heap.size w)
  have H : ((civil_floor.f (wrap64 (a0 + 730425)) 146097).bind fun bt137 => (if (wrap64 (Int.tdiv (wrap64 ((wrap64 (5 * (wrap64 ((wrap64 ((wrap64 (bt137.2 - (wrap64 ((mn (wrap64 (Int.tdiv bt137.2 36524)) 3) * 36524)))) - (wrap64 ((wrap64 (Int.tdiv (wrap64 (bt137.2 - (wrap64 ((mn (wrap64 (Int.tdiv bt137.2 36524)) 3) * 36524)))) 1461)) * 1461)))) - (wrap64 ((mn (wrap64 (Int.tdiv (wrap64 ((wrap64 (bt137.2 - (wrap64 ((mn (wrap64 (Int.tdiv bt137.2 36524)) 3) * 36524)))) - (wrap64 ((wrap64 (Int.tdiv (wrap64 (bt137.2 - (wrap64 ((mn (wrap64 (Int.tdiv bt137.2 36524)) 3) * 36524)))) 1461)) * 1461)))) 365)) 3) * 365)))))) + 2)) 153)) ≥ 10 then (some (wrap64 ((wrap64 ((wrap64 ((wrap64 ((wrap64 (bt137.1 * 400)) + (wrap64 ((mn (wrap64 (Int.tdiv bt137.2 36524)) 3) * 100)))) + (wrap64 ((wrap64 (Int.tdiv (wrap64 (bt137.2 - (wrap64 ((mn (wrap64 (Int.tdiv bt137.2 36524)) 3) * 36524)))) 1461)) * 4)))) + (mn (wrap64 (Int.tdiv (wrap64 ((wrap64 (bt137.2 - (wrap64 ((mn (wrap64 (Int.tdiv bt137.2 36524)) 3) * 36524)))) - (wrap64 ((wrap64 (Int.tdiv (wrap64 (bt137.2 - (wrap64 ((mn (wrap64 (Int.tdiv bt137.2 36524)) 3) * 36524)))) 1461)) * 1461)))) 365)) 3))) + 1), wrap64 ((wrap64 (Int.tdiv (wrap64 ((wrap64 (5 * (wrap64 ((wrap64 ((wrap64 (bt137.2 - (wrap64 ((mn (wrap64 (Int.tdiv bt137.2 36524)) 3) * 36524)))) - (wrap64 ((wrap64 (Int.tdiv (wrap64 (bt137.2 - (wrap64 ((mn (wrap64 (Int.tdiv bt137.2 36524)) 3) * 36524)))) 1461)) * 1461)))) - (wrap64 ((mn (wrap64 (Int.tdiv (wrap64 ((wrap64 (bt137.2 - (wrap64 ((mn (wrap64 (Int.tdiv bt137.2 36524)) 3) * 36524)))) - (wrap64 ((wrap64 (Int.tdiv (wrap64 (bt137.2 - (wrap64 ((mn (wrap64 (Int.tdiv bt137.2 36524)) 3) * 36524)))) 1461)) * 1461)))) 365)) 3) * 365)))))) + 2)) 153)) - 9), wrap64 ((wrap64 ((wrap64 ((wrap64 ((wrap64 (bt137.2 - (wrap64 ((mn (wrap64 (Int.tdiv bt137.2 36524)) 3) * 36524)))) - (wrap64 ((wrap64 (Int.tdiv (wrap64 (bt137.2 - (wrap64 ((mn (wrap64 (Int.tdiv bt137.2 36524)) 3) * 36524)))) 1461)) * 1461)))) - (wrap64 ((mn (wrap64 (Int.tdiv (wrap64 ((wrap64 (bt137.2 - (wrap64 ((mn (wrap64 (Int.tdiv bt137.2 36524)) 3) * 36524)))) - (wrap64 ((wrap64 (Int.tdiv (wrap64 (bt137.2 - (wrap64 ((mn (wrap64 (Int.tdiv bt137.2 36524)) 3) * 36524)))) 1461)) * 1461)))) 365)) 3) * 365)))) - (wrap64 (Int.tdiv (wrap64 ((wrap64 (153 * (wrap64 (Int.tdiv (wrap64 ((wrap64 (5 * (wrap64 ((wrap64 ((wrap64 (bt137.2 - (wrap64 ((mn (wrap64 (Int.tdiv bt137.2 36524)) 3) * 36524)))) - (wrap64 ((wrap64 (Int.tdiv (wrap64 (bt137.2 - (wrap64 ((mn (wrap64 (Int.tdiv bt137.2 36524)) 3) * 36524)))) 1461)) * 1461)))) - (wrap64 ((mn (wrap64 (Int.tdiv (wrap64 ((wrap64 (bt137.2 - (wrap64 ((mn (wrap64 (Int.tdiv bt137.2 36524)) 3) * 36524)))) - (wrap64 ((wrap64 (Int.tdiv (wrap64 (bt137.2 - (wrap64 ((mn (wrap64 (Int.tdiv bt137.2 36524)) 3) * 36524)))) 1461)) * 1461)))) 365)) 3) * 365)))))) + 2)) 153)))) + 2)) 5)))) + 1))) else (some (wrap64 ((wrap64 ((wrap64 ((wrap64 (bt137.1 * 400)) + (wrap64 ((mn (wrap64 (Int.tdiv bt137.2 36524)) 3) * 100)))) + (wrap64 ((wrap64 (Int.tdiv (wrap64 (bt137.2 - (wrap64 ((mn (wrap64 (Int.tdiv bt137.2 36524)) 3) * 36524)))) 1461)) * 4)))) + (mn (wrap64 (Int.tdiv (wrap64 ((wrap64 (bt137.2 - (wrap64 ((mn (wrap64 (Int.tdiv bt137.2 36524)) 3) * 36524)))) - (wrap64 ((wrap64 (Int.tdiv (wrap64 (bt137.2 - (wrap64 ((mn (wrap64 (Int.tdiv bt137.2 36524)) 3) * 36524)))) 1461)) * 1461)))) 365)) 3)), wrap64 ((wrap64 (Int.tdiv (wrap64 ((wrap64 (5 * (wrap64 ((wrap64 ((wrap64 (bt137.2 - (wrap64 ((mn (wrap64 (Int.tdiv bt137.2 36524)) 3) * 36524)))) - (wrap64 ((wrap64 (Int.tdiv (wrap64 (bt137.2 - (wrap64 ((mn (wrap64 (Int.tdiv bt137.2 36524)) 3) * 36524)))) 1461)) * 1461)))) - (wrap64 ((mn (wrap64 (Int.tdiv (wrap64 ((wrap64 (bt137.2 - (wrap64 ((mn (wrap64 (Int.tdiv bt137.2 36524)) 3) * 36524)))) - (wrap64 ((wrap64 (Int.tdiv (wrap64 (bt137.2 - (wrap64 ((mn (wrap64 (Int.tdiv bt137.2 36524)) 3) * 36524)))) 1461)) * 1461)))) 365)) 3) * 365)))))) + 2)) 153)) + 3), wrap64 ((wrap64 ((wrap64 ((wrap64 ((wrap64 (bt137.2 - (wrap64 ((mn (wrap64 (Int.tdiv bt137.2 36524)) 3) * 36524)))) - (wrap64 ((wrap64 (Int.tdiv (wrap64 (bt137.2 - (wrap64 ((mn (wrap64 (Int.tdiv bt137.2 36524)) 3) * 36524)))) 1461)) * 1461)))) - (wrap64 ((mn (wrap64 (Int.tdiv (wrap64 ((wrap64 (bt137.2 - (wrap64 ((mn (wrap64 (Int.tdiv bt137.2 36524)) 3) * 36524)))) - (wrap64 ((wrap64 (Int.tdiv (wrap64 (bt137.2 - (wrap64 ((mn (wrap64 (Int.tdiv bt137.2 36524)) 3) * 36524)))) 1461)) * 1461)))) 365)) 3) * 365)))) - (wrap64 (Int.tdiv (wrap64 ((wrap64 (153 * (wrap64 (Int.tdiv (wrap64 ((wrap64 (5 * (wrap64 ((wrap64 ((wrap64 (bt137.2 - (wrap64 ((mn (wrap64 (Int.tdiv bt137.2 36524)) 3) * 36524)))) - (wrap64 ((wrap64 (Int.tdiv (wrap64 (bt137.2 - (wrap64 ((mn (wrap64 (Int.tdiv bt137.2 36524)) 3) * 36524)))) 1461)) * 1461)))) - (wrap64 ((mn (wrap64 (Int.tdiv (wrap64 ((wrap64 (bt137.2 - (wrap64 ((mn (wrap64 (Int.tdiv bt137.2 36524)) 3) * 36524)))) - (wrap64 ((wrap64 (Int.tdiv (wrap64 (bt137.2 - (wrap64 ((mn (wrap64 (Int.tdiv bt137.2 36524)) 3) * 36524)))) 1461)) * 1461)))) 365)) 3) * 365)))))) + 2)) 153)))) + 2)) 5)))) + 1))))) = some (r1, r2, r3) := h
  clear h
  replace H := Option.bind_eq_some_iff.mp H
  obtain ⟨⟨t137, t138⟩, A20, H⟩ := H
  replace H : (if (wrap64 (Int.tdiv (wrap64 ((wrap64 (5 * (wrap64 ((wrap64 ((wrap64 (t138 - (wrap64 ((mn (wrap64 (Int.tdiv t138 36524)) 3) * 36524)))) - (wrap64 ((wrap64 (Int.tdiv (wrap64 (t138 - (wrap64 ((mn (wrap64 (Int.tdiv t138 36524)) 3) * 36524)))) 1461)) * 1461)))) - (wrap64 ((mn (wrap64 (Int.tdiv (wrap64 ((wrap64 (t138 - (wrap64 ((mn (wrap64 (Int.tdiv t138 36524)) 3) * 36524)))) - (wrap64 ((wrap64 (Int.tdiv (wrap64 (t138 - (wrap64 ((mn (wrap64 (Int.tdiv t138 36524)) 3) * 36524)))) 1461)) * 1461)))) 365)) 3) * 365)))))) + 2)) 153)) ≥ 10 then (some (wrap64 ((wrap64 ((wrap64 ((wrap64 ((wrap64 (t137 * 400)) + (wrap64 ((mn (wrap64 (Int.tdiv t138 36524)) 3) * 100)))) + (wrap64 ((wrap64 (Int.tdiv (wrap64 (t138 - (wrap64 ((mn (wrap64 (Int.tdiv t138 36524)) 3) * 36524)))) 1461)) * 4)))) + (mn (wrap64 (Int.tdiv (wrap64 ((wrap64 (t138 - (wrap64 ((mn (wrap64 (Int.tdiv t138 36524)) 3) * 36524)))) - (wrap64 ((wrap64 (Int.tdiv (wrap64 (t138 - (wrap64 ((mn (wrap64 (Int.tdiv t138 36524)) 3) * 36524)))) 1461)) * 1461)))) 365)) 3))) + 1), wrap64 ((wrap64 (Int.tdiv (wrap64 ((wrap64 (5 * (wrap64 ((wrap64 ((wrap64 (t138 - (wrap64 ((mn (wrap64 (Int.tdiv t138 36524)) 3) * 36524)))) - (wrap64 ((wrap64 (Int.tdiv (wrap64 (t138 - (wrap64 ((mn (wrap64 (Int.tdiv t138 36524)) 3) * 36524)))) 1461)) * 1461)))) - (wrap64 ((mn (wrap64 (Int.tdiv (wrap64 ((wrap64 (t138 - (wrap64 ((mn (wrap64 (Int.tdiv t138 36524)) 3) * 36524)))) - (wrap64 ((wrap64 (Int.tdiv (wrap64 (t138 - (wrap64 ((mn (wrap64 (Int.tdiv t138 36524)) 3) * 36524)))) 1461)) * 1461)))) 365)) 3) * 365)))))) + 2)) 153)) - 9), wrap64 ((wrap64 ((wrap64 ((wrap64 ((wrap64 (t138 - (wrap64 ((mn (wrap64 (Int.tdiv t138 36524)) 3) * 36524)))) - (wrap64 ((wrap64 (Int.tdiv (wrap64 (t138 - (wrap64 ((mn (wrap64 (Int.tdiv t138 36524)) 3) * 36524)))) 1461)) * 1461)))) - (wrap64 ((mn (wrap64 (Int.tdiv (wrap64 ((wrap64 (t138 - (wrap64 ((mn (wrap64 (Int.tdiv t138 36524)) 3) * 36524)))) - (wrap64 ((wrap64 (Int.tdiv (wrap64 (t138 - (wrap64 ((mn (wrap64 (Int.tdiv t138 36524)) 3) * 36524)))) 1461)) * 1461)))) 365)) 3) * 365)))) - (wrap64 (Int.tdiv (wrap64 ((wrap64 (153 * (wrap64 (Int.tdiv (wrap64 ((wrap64 (5 * (wrap64 ((wrap64 ((wrap64 (t138 - (wrap64 ((mn (wrap64 (Int.tdiv t138 36524)) 3) * 36524)))) - (wrap64 ((wrap64 (Int.tdiv (wrap64 (t138 - (wrap64 ((mn (wrap64 (Int.tdiv t138 36524)) 3) * 36524)))) 1461)) * 1461)))) - (wrap64 ((mn (wrap64 (Int.tdiv (wrap64 ((wrap64 (t138 - (wrap64 ((mn (wrap64 (Int.tdiv t138 36524)) 3) * 36524)))) - (wrap64 ((wrap64 (Int.tdiv (wrap64 (t138 - (wrap64 ((mn (wrap64 (Int.tdiv t138 36524)) 3) * 36524)))) 1461)) * 1461)))) 365)) 3) * 365)))))) + 2)) 153)))) + 2)) 5)))) + 1))) else (some (wrap64 ((wrap64 ((wrap64 ((wrap64 (t137 * 400)) + (wrap64 ((mn (wrap64 (Int.tdiv t138 36524)) 3) * 100)))) + (wrap64 ((wrap64 (Int.tdiv (wrap64 (t138 - (wrap64 ((mn (wrap64 (Int.tdiv t138 36524)) 3) * 36524)))) 1461)) * 4)))) + (mn (wrap64 (Int.tdiv (wrap64 ((wrap64 (t138 - (wrap64 ((mn (wrap64 (Int.tdiv t138 36524)) 3) * 36524)))) - (wrap64 ((wrap64 (Int.tdiv (wrap64 (t138 - (wrap64 ((mn (wrap64 (Int.tdiv t138 36524)) 3) * 36524)))) 1461)) * 1461)))) 365)) 3)), wrap64 ((wrap64 (Int.tdiv (wrap64 ((wrap64 (5 * (wrap64 ((wrap64 ((wrap64 (t138 - (wrap64 ((mn (wrap64 (Int.tdiv t138 36524)) 3) * 36524)))) - (wrap64 ((wrap64 (Int.tdiv (wrap64 (t138 - (wrap64 ((mn (wrap64 (Int.tdiv t138 36524)) 3) * 36524)))) 1461)) * 1461)))) - (wrap64 ((mn (wrap64 (Int.tdiv (wrap64 ((wrap64 (t138 - (wrap64 ((mn (wrap64 (Int.tdiv t138 36524)) 3) * 36524)))) - (wrap64 ((wrap64 (Int.tdiv (wrap64 (t138 - (wrap64 ((mn (wrap64 (Int.tdiv t138 36524)) 3) * 36524)))) 1461)) * 1461)))) 365)) 3) * 365)))))) + 2)) 153)) + 3), wrap64 ((wrap64 ((wrap64 ((wrap64 ((wrap64 (t138 - (wrap64 ((mn (wrap64 (Int.tdiv t138 36524)) 3) * 36524)))) - (wrap64 ((wrap64 (Int.tdiv (wrap64 (t138 - (wrap64 ((mn (wrap64 (Int.tdiv t138 36524)) 3) * 36524)))) 1461)) * 1461)))) - (wrap64 ((mn (wrap64 (Int.tdiv (wrap64 ((wrap64 (t138 - (wrap64 ((mn (wrap64 (Int.tdiv t138 36524)) 3) * 36524)))) - (wrap64 ((wrap64 (Int.tdiv (wrap64 (t138 - (wrap64 ((mn (wrap64 (Int.tdiv t138 36524)) 3) * 36524)))) 1461)) * 1461)))) 365)) 3) * 365)))) - (wrap64 (Int.tdiv (wrap64 ((wrap64 (153 * (wrap64 (Int.tdiv (wrap64 ((wrap64 (5 * (wrap64 ((wrap64 ((wrap64 (t138 - (wrap64 ((mn (wrap64 (Int.tdiv t138 36524)) 3) * 36524)))) - (wrap64 ((wrap64 (Int.tdiv (wrap64 (t138 - (wrap64 ((mn (wrap64 (Int.tdiv t138 36524)) 3) * 36524)))) 1461)) * 1461)))) - (wrap64 ((mn (wrap64 (Int.tdiv (wrap64 ((wrap64 (t138 - (wrap64 ((mn (wrap64 (Int.tdiv t138 36524)) 3) * 36524)))) - (wrap64 ((wrap64 (Int.tdiv (wrap64 (t138 - (wrap64 ((mn (wrap64 (Int.tdiv t138 36524)) 3) * 36524)))) 1461)) * 1461)))) 365)) 3) * 365)))))) + 2)) 153)))) + 2)) 5)))) + 1)))) = some (r1, r2, r3) := H
  have A2 := Aside0.mk A20
  clear A20
  obtain ⟨ji3, hji3⟩ : ∃ j_ : Int, (mn (wrap64 (Int.tdiv t138 36524)) 3) = j_ := ⟨_, rfl⟩
  replace H : (if (wrap64 (Int.tdiv (wrap64 ((wrap64 (5 * (wrap64 ((wrap64 ((wrap64 (t138 - (wrap64 ((ji3) * 36524)))) - (wrap64 ((wrap64 (Int.tdiv (wrap64 (t138 - (wrap64 ((ji3) * 36524)))) 1461)) * 1461)))) - (wrap64 ((mn (wrap64 (Int.tdiv (wrap64 ((wrap64 (t138 - (wrap64 ((ji3) * 36524)))) - (wrap64 ((wrap64 (Int.tdiv (wrap64 (t138 - (wrap64 ((ji3) * 36524)))) 1461)) * 1461)))) 365)) 3) * 365)))))) + 2)) 153)) ≥ 10 then (some (wrap64 ((wrap64 ((wrap64 ((wrap64 ((wrap64 (t137 * 400)) + (wrap64 ((ji3) * 100)))) + (wrap64 ((wrap64 (Int.tdiv (wrap64 (t138 - (wrap64 ((ji3) * 36524)))) 1461)) * 4)))) + (mn (wrap64 (Int.tdiv (wrap64 ((wrap64 (t138 - (wrap64 ((ji3) * 36524)))) - (wrap64 ((wrap64 (Int.tdiv (wrap64 (t138 - (wrap64 ((ji3) * 36524)))) 1461)) * 1461)))) 365)) 3))) + 1), wrap64 ((wrap64 (Int.tdiv (wrap64 ((wrap64 (5 * (wrap64 ((wrap64 ((wrap64 (t138 - (wrap64 ((ji3) * 36524)))) - (wrap64 ((wrap64 (Int.tdiv (wrap64 (t138 - (wrap64 ((ji3) * 36524)))) 1461)) * 1461)))) - (wrap64 ((mn (wrap64 (Int.tdiv (wrap64 ((wrap64 (t138 - (wrap64 ((ji3) * 36524)))) - (wrap64 ((wrap64 (Int.tdiv (wrap64 (t138 - (wrap64 ((ji3) * 36524)))) 1461)) * 1461)))) 365)) 3) * 365)))))) + 2)) 153)) - 9), wrap64 ((wrap64 ((wrap64 ((wrap64 ((wrap64 (t138 - (wrap64 ((ji3) * 36524)))) - (wrap64 ((wrap64 (Int.tdiv (wrap64 (t138 - (wrap64 ((ji3) * 36524)))) 1461)) * 1461)))) - (wrap64 ((mn (wrap64 (Int.tdiv (wrap64 ((wrap64 (t138 - (wrap64 ((ji3) * 36524)))) - (wrap64 ((wrap64 (Int.tdiv (wrap64 (t138 - (wrap64 ((ji3) * 36524)))) 1461)) * 1461)))) 365)) 3) * 365)))) - (wrap64 (Int.tdiv (wrap64 ((wrap64 (153 * (wrap64 (Int.tdiv (wrap64 ((wrap64 (5 * (wrap64 ((wrap64 ((wrap64 (t138 - (wrap64 ((ji3) * 36524)))) - (wrap64 ((wrap64 (Int.tdiv (wrap64 (t138 - (wrap64 ((ji3) * 36524)))) 1461)) * 1461)))) - (wrap64 ((mn (wrap64 (Int.tdiv (wrap64 ((wrap64 (t138 - (wrap64 ((ji3) * 36524)))) - (wrap64 ((wrap64 (Int.tdiv (wrap64 (t138 - (wrap64 ((ji3) * 36524)))) 1461)) * 1461)))) 365)) 3) * 365)))))) + 2)) 153)))) + 2)) 5)))) + 1))) else (some (wrap64 ((wrap64 ((wrap64 ((wrap64 (t137 * 400)) + (wrap64 ((ji3) * 100)))) + (wrap64 ((wrap64 (Int.tdiv (wrap64 (t138 - (wrap64 ((ji3) * 36524)))) 1461)) * 4)))) + (mn (wrap64 (Int.tdiv (wrap64 ((wrap64 (t138 - (wrap64 ((ji3) * 36524)))) - (wrap64 ((wrap64 (Int.tdiv (wrap64 (t138 - (wrap64 ((ji3) * 36524)))) 1461)) * 1461)))) 365)) 3)), wrap64 ((wrap64 (Int.tdiv (wrap64 ((wrap64 (5 * (wrap64 ((wrap64 ((wrap64 (t138 - (wrap64 ((ji3) * 36524)))) - (wrap64 ((wrap64 (Int.tdiv (wrap64 (t138 - (wrap64 ((ji3) * 36524)))) 1461)) * 1461)))) - (wrap64 ((mn (wrap64 (Int.tdiv (wrap64 ((wrap64 (t138 - (wrap64 ((ji3) * 36524)))) - (wrap64 ((wrap64 (Int.tdiv (wrap64 (t138 - (wrap64 ((ji3) * 36524)))) 1461)) * 1461)))) 365)) 3) * 365)))))) + 2)) 153)) + 3), wrap64 ((wrap64 ((wrap64 ((wrap64 ((wrap64 (t138 - (wrap64 ((ji3) * 36524)))) - (wrap64 ((wrap64 (Int.tdiv (wrap64 (t138 - (wrap64 ((ji3) * 36524)))) 1461)) * 1461)))) - (wrap64 ((mn (wrap64 (Int.tdiv (wrap64 ((wrap64 (t138 - (wrap64 ((ji3) * 36524)))) - (wrap64 ((wrap64 (Int.tdiv (wrap64 (t138 - (wrap64 ((ji3) * 36524)))) 1461)) * 1461)))) 365)) 3) * 365)))) - (wrap64 (Int.tdiv (wrap64 ((wrap64 (153 * (wrap64 (Int.tdiv (wrap64 ((wrap64 (5 * (wrap64 ((wrap64 ((wrap64 (t138 - (wrap64 ((ji3) * 36524)))) - (wrap64 ((wrap64 (Int.tdiv (wrap64 (t138 - (wrap64 ((ji3) * 36524)))) 1461)) * 1461)))) - (wrap64 ((mn (wrap64 (Int.tdiv (wrap64 ((wrap64 (t138 - (wrap64 ((ji3) * 36524)))) - (wrap64 ((wrap64 (Int.tdiv (wrap64 (t138 - (wrap64 ((ji3) * 36524)))) 1461)) * 1461)))) 365)) 3) * 365)))))) + 2)) 153)))) + 2)) 5)))) + 1)))) = some (r1, r2, r3) := by first | (rw [hji3] at H; exact H) | (simp only [hji3] at H ⊢; exact H)
  (try rw [hji3] at A2)
  (try (have hji3h : ji3 ≤ 3 := by (rw [← hji3]; unfold mn; (repeat' split) <;> omega)))
  (try (have hji3g : ji3 ≤ 64 := by omega))
  have hji3_ : (if 3 < (wrap64 (Int.tdiv t138 36524)) then 3 else (wrap64 (Int.tdiv t138 36524))) = ji3 := hji3
  obtain ⟨ji4, hji4⟩ : ∃ j_ : Int, (mn (wrap64 (Int.tdiv (wrap64 ((wrap64 (t138 - (wrap64 ((ji3) * 36524)))) - (wrap64 ((wrap64 (Int.tdiv (wrap64 (t138 - (wrap64 ((ji3) * 36524)))) 1461)) * 1461)))) 365)) 3) = j_ := ⟨_, rfl⟩
  replace H : (if (wrap64 (Int.tdiv (wrap64 ((wrap64 (5 * (wrap64 ((wrap64 ((wrap64 (t138 - (wrap64 ((ji3) * 36524)))) - (wrap64 ((wrap64 (Int.tdiv (wrap64 (t138 - (wrap64 ((ji3) * 36524)))) 1461)) * 1461)))) - (wrap64 ((ji4) * 365)))))) + 2)) 153)) ≥ 10 then (some (wrap64 ((wrap64 ((wrap64 ((wrap64 ((wrap64 (t137 * 400)) + (wrap64 ((ji3) * 100)))) + (wrap64 ((wrap64 (Int.tdiv (wrap64 (t138 - (wrap64 ((ji3) * 36524)))) 1461)) * 4)))) + (ji4))) + 1), wrap64 ((wrap64 (Int.tdiv (wrap64 ((wrap64 (5 * (wrap64 ((wrap64 ((wrap64 (t138 - (wrap64 ((ji3) * 36524)))) - (wrap64 ((wrap64 (Int.tdiv (wrap64 (t138 - (wrap64 ((ji3) * 36524)))) 1461)) * 1461)))) - (wrap64 ((ji4) * 365)))))) + 2)) 153)) - 9), wrap64 ((wrap64 ((wrap64 ((wrap64 ((wrap64 (t138 - (wrap64 ((ji3) * 36524)))) - (wrap64 ((wrap64 (Int.tdiv (wrap64 (t138 - (wrap64 ((ji3) * 36524)))) 1461)) * 1461)))) - (wrap64 ((ji4) * 365)))) - (wrap64 (Int.tdiv (wrap64 ((wrap64 (153 * (wrap64 (Int.tdiv (wrap64 ((wrap64 (5 * (wrap64 ((wrap64 ((wrap64 (t138 - (wrap64 ((ji3) * 36524)))) - (wrap64 ((wrap64 (Int.tdiv (wrap64 (t138 - (wrap64 ((ji3) * 36524)))) 1461)) * 1461)))) - (wrap64 ((ji4) * 365)))))) + 2)) 153)))) + 2)) 5)))) + 1))) else (some (wrap64 ((wrap64 ((wrap64 ((wrap64 (t137 * 400)) + (wrap64 ((ji3) * 100)))) + (wrap64 ((wrap64 (Int.tdiv (wrap64 (t138 - (wrap64 ((ji3) * 36524)))) 1461)) * 4)))) + (ji4)), wrap64 ((wrap64 (Int.tdiv (wrap64 ((wrap64 (5 * (wrap64 ((wrap64 ((wrap64 (t138 - (wrap64 ((ji3) * 36524)))) - (wrap64 ((wrap64 (Int.tdiv (wrap64 (t138 - (wrap64 ((ji3) * 36524)))) 1461)) * 1461)))) - (wrap64 ((ji4) * 365)))))) + 2)) 153)) + 3), wrap64 ((wrap64 ((wrap64 ((wrap64 ((wrap64 (t138 - (wrap64 ((ji3) * 36524)))) - (wrap64 ((wrap64 (Int.tdiv (wrap64 (t138 - (wrap64 ((ji3) * 36524)))) 1461)) * 1461)))) - (wrap64 ((ji4) * 365)))) - (wrap64 (Int.tdiv (wrap64 ((wrap64 (153 * (wrap64 (Int.tdiv (wrap64 ((wrap64 (5 * (wrap64 ((wrap64 ((wrap64 (t138 - (wrap64 ((ji3) * 36524)))) - (wrap64 ((wrap64 (Int.tdiv (wrap64 (t138 - (wrap64 ((ji3) * 36524)))) 1461)) * 1461)))) - (wrap64 ((ji4) * 365)))))) + 2)) 153)))) + 2)) 5)))) + 1)))) = some (r1, r2, r3) := by first | (rw [hji4] at H; exact H) | (simp only [hji4] at H ⊢; exact H)
  (try rw [hji4] at A2)
  have hji4_ : (if 3 < (wrap64 (Int.tdiv (wrap64 ((wrap64 (t138 - (wrap64 ((ji3) * 36524)))) - (wrap64 ((wrap64 (Int.tdiv (wrap64 (t138 - (wrap64 ((ji3) * 36524)))) 1461)) * 1461)))) 365)) then 3 else (wrap64 (Int.tdiv (wrap64 ((wrap64 (t138 - (wrap64 ((ji3) * 36524)))) - (wrap64 ((wrap64 (Int.tdiv (wrap64 (t138 - (wrap64 ((ji3) * 36524)))) 1461)) * 1461)))) 365))) = ji4 := hji4
  by_cases c5 : (wrap64 (Int.tdiv (wrap64 ((wrap64 (5 * (wrap64 ((wrap64 ((wrap64 (t138 - (wrap64 ((ji3) * 36524)))) - (wrap64 ((wrap64 (Int.tdiv (wrap64 (t138 - (wrap64 ((ji3) * 36524)))) 1461)) * 1461)))) - (wrap64 ((ji4) * 365)))))) + 2)) 153)) ≥ 10
  · rw [if_pos c5] at H
    have c5b0 : decide (10 ≤ (wrap64 (Int.tdiv (wrap64 ((wrap64 (5 * (wrap64 ((wrap64 ((wrap64 (t138 - (wrap64 ((ji3) * 36524)))) - (wrap64 ((wrap64 (Int.tdiv (wrap64 (t138 - (wrap64 ((ji3) * 36524)))) 1461)) * 1461)))) - (wrap64 ((ji4) * 365)))))) + 2)) 153))) = true := decide_eq_true c5
    clear c5
    simp only [Option.some.injEq, Prod.mk.injEq] at H
    obtain ⟨rfl, rfl, rfl⟩ := H
    go_enter Tryz.func130, Tryz.ntmps130
    go_wp2_with (first | ((with_reducible refine kM (f := 88) rfl ?_); refine goesL_ (some 16) rfl rfl Tryz.func88 (by kernel_rfl) rfl #[.int .i64 (wrap64 (a0 + 730425)), .int .i64 146097] rfl (by (try simp only [List.map_toArray, List.map_cons, List.map_nil]); first | done | rfl | (simp only [List.length_drop, List.length_take]; rfl)) ?_; (with_reducible refine (civil_floor.calls (wrap64 (a0 + 730425)) 146097 t137 t138 _ A2.out).mono ?_); rintro e w' ⟨rfl, ⟨nd, rfl⟩⟩; refine ⟨_, rfl, ?_⟩))
    go_ret3
    exact ⟨by first | rfl | (simp [errW_none, errW_some] <;> rfl) | (simp only [← hji3, ← hji4]; first | rfl | (simp [errW_none, errW_some] <;> rfl)) | (simp [*, errW_none, errW_some] <;> rfl), by repeat (first | (with_reducible first | exact HB.out | apply kC | apply kA | apply kB) | exact HB.out)⟩
  · rw [if_neg c5] at H
    have c5b0 : decide (10 ≤ (wrap64 (Int.tdiv (wrap64 ((wrap64 (5 * (wrap64 ((wrap64 ((wrap64 (t138 - (wrap64 ((ji3) * 36524)))) - (wrap64 ((wrap64 (Int.tdiv (wrap64 (t138 - (wrap64 ((ji3) * 36524)))) 1461)) * 1461)))) - (wrap64 ((ji4) * 365)))))) + 2)) 153))) = false := decide_eq_false c5
    clear c5
    simp only [Option.some.injEq, Prod.mk.injEq] at H
    obtain ⟨rfl, rfl, rfl⟩ := H
    go_enter Tryz.func130, Tryz.ntmps130
    go_wp2_with (first | ((with_reducible refine kM (f := 88) rfl ?_); refine goesL_ (some 16) rfl rfl Tryz.func88 (by kernel_rfl) rfl #[.int .i64 (wrap64 (a0 + 730425)), .int .i64 146097] rfl (by (try simp only [List.map_toArray, List.map_cons, List.map_nil]); first | done | rfl | (simp only [List.length_drop, List.length_take]; rfl)) ?_; (with_reducible refine (civil_floor.calls (wrap64 (a0 + 730425)) 146097 t137 t138 _ A2.out).mono ?_); rintro e w' ⟨rfl, ⟨nd, rfl⟩⟩; refine ⟨_, rfl, ?_⟩))
    go_ret3
    exact ⟨by first | rfl | (simp [errW_none, errW_some] <;> rfl) | (simp only [← hji3, ← hji4]; first | rfl | (simp [errW_none, errW_some] <;> rfl)) | (simp [*, errW_none, errW_some] <;> rfl), by repeat (first | (with_reducible first | exact HB.out | apply kC | apply kA | apply kB) | exact HB.out)⟩
noncomputable def civil_parts.con : Con
  | [.int .i64 a0] => some ((civil_parts.f a0).isSome, .tup [.int .i64 (gd (civil_parts.f a0)).1, .int .i64 (gd (civil_parts.f a0)).2.1, .int .i64 (gd (civil_parts.f a0)).2.2])
  | _ => none
set_option maxRecDepth 100000 in
theorem civil_parts.cok : COk Tryz.prog 130 (civil_parts.con) := by
  intro args p v hc hp w A hA
  unfold civil_parts.con at hc
  split at hc
  · rename_i a0
    simp only [Option.some.injEq, Prod.mk.injEq] at hc
    obtain ⟨rfl, rfl⟩ := hc
    rcases hf : civil_parts.f a0 with _ | ⟨r1, r2, r3⟩
    · rw [hf] at hp; cases hp
    obtain rfl : A = [.int .i64 a0] := by simpa [rl_cons, rl_nil, rv_int, rv_bool, rv_str, rv_agg, rv_fn] using hA
    exact gives_of_calls (fn := Tryz.f130) Tryz.func130 (by kernel_rfl) (by kernel_rfl) (civil_parts.calls _ _ _ _ w hf) (fun _ => by simp [gd_some, rl_cons, rl_nil, rv_int, rv_bool, rv_str, rv_agg, rv_tup]) (fun _ h => h)
  · cases hc
def civil_Date.f (a0 : Int) : Option (Int × Int × Int × Int) := (civil_can.f a0).bind fun t139 => (if t139 = true then ((civil_parts.f a0).bind fun bt140 => (some (bt140.1, bt140.2.1, bt140.2.2, 0))) else (some (0, 0, 0, 10)))
set_option maxRecDepth 100000 in
theorem civil_Date.vc (a0 : Int) (K : AV → Prop) : afv PA Tryz.prog (tab [(129, civil_can.con), (130, civil_parts.con)]) noLoops 2 90 [.int .i64 a0] K = (brc (Option.isSome (civil_can.f a0)) (∀ (m0 : Bool), m0 = gd (civil_can.f a0) → brc (!m0) (K (AV.tup [AV.int IntKind.i64 0, AV.int IntKind.i64 0, AV.int IntKind.i64 0, AV.int IntKind.i64 10])) (brc (Option.isSome (civil_parts.f a0)) (∀ (m1 : Int), m1 = Prod.fst (gd (civil_parts.f a0)) → ∀ (m2 : Int), m2 = Prod.fst (Prod.snd (gd (civil_parts.f a0))) → ∀ (m3 : Int), m3 = Prod.snd (Prod.snd (gd (civil_parts.f a0))) → K (AV.tup [AV.int IntKind.i64 m1, AV.int IntKind.i64 m2, AV.int IntKind.i64 m3, AV.int IntKind.i64 0])) False)) False) := by kernel_rfl
set_option maxHeartbeats 1000000 in
set_option maxRecDepth 100000 in
theorem civil_Date.calls (a0 : Int) (r1 : Int) (r2 : Int) (r3 : Int) (r4 : Int) (w : World) (h : civil_Date.f a0 = some (r1, r2, r3, r4)) :
    Calls Tryz.prog 90 #[.int .i64 a0] w fun e w' => e = .returned (.tuple #[.int .i64 r1, .int .i64 r2, .int .i64 r3, .int .i64 r4]) ∧ Below w.heap.size w w' := by
  refine calls_of_vc (A := [.int .i64 a0]) (v := .tup [.int .i64 r1, .int .i64 r2, .int .i64 r3, .int .i64 r4]) (tab_cons (civil_can.cok) (tab_cons (civil_parts.cok) (tab_nil))) ((civil_Date.vc a0 _).mpr ?_) (by simp [rl_cons, rl_nil, rv_int, rv_bool, rv_str, rv_agg, rv_fn]) (fun ρ V' hV => by simpa [rl_cons, rl_nil, rv_int, rv_bool, rv_str, rv_agg, rv_tup] using hV)
  unfold civil_Date.f at h
  (try simp only [bne, Option.bind_eq_some_iff, ite_some_iff] at h)
  (try simp only [bne, brc_iff, wrap_i64])
  first
    | grind (splits := 60) [gd_some]
    | ((repeat' (first | (have or_ : Or _ _ := h; clear or_; rcases h with h | h) | (have or_ : Exists _ := h; clear or_; obtain ⟨_, h⟩ := h) | (have or_ : And _ _ := h; clear or_; obtain ⟨hq_, h⟩ := h))) <;> (try simp only [Option.some.injEq, Prod.mk.injEq, reduceCtorEq] at h) <;> (try subst_vars) <;> first | (simp_all [gd_some] <;> (try omega) <;> done) | grind (splits := 60) [gd_some])
    | (intros; subst_vars; simp_all [gd_some]; done)
noncomputable def civil_Date.con : Con
  | [.int .i64 a0] => some ((civil_Date.f a0).isSome, .tup [.int .i64 (gd (civil_Date.f a0)).1, .int .i64 (gd (civil_Date.f a0)).2.1, .int .i64 (gd (civil_Date.f a0)).2.2.1, .int .i64 (gd (civil_Date.f a0)).2.2.2])
  | _ => none
set_option maxRecDepth 100000 in
theorem civil_Date.cok : COk Tryz.prog 90 (civil_Date.con) := by
  intro args p v hc hp w A hA
  unfold civil_Date.con at hc
  split at hc
  · rename_i a0
    simp only [Option.some.injEq, Prod.mk.injEq] at hc
    obtain ⟨rfl, rfl⟩ := hc
    rcases hf : civil_Date.f a0 with _ | ⟨r1, r2, r3, r4⟩
    · rw [hf] at hp; cases hp
    obtain rfl : A = [.int .i64 a0] := by simpa [rl_cons, rl_nil, rv_int, rv_bool, rv_str, rv_agg, rv_fn] using hA
    exact gives_of_calls (fn := Tryz.f90) Tryz.func90 (by kernel_rfl) (by kernel_rfl) (civil_Date.calls _ _ _ _ _ w hf) (fun _ => by simp [gd_some, rl_cons, rl_nil, rv_int, rv_bool, rv_str, rv_agg, rv_tup]) (fun _ h => h)
  · cases hc
end Go.Proofs.YthkmckmfgglafaaGreat.P
namespace Go.Proofs.YthkmckmfgglafaaGreat.P
open Go.RowKit Go.Proofs.YthkmckmfgglafaaGreatW.PrintWords Go.Proofs.YthkmckmfgglafaaGreatW.PrintLast Go.Proofs.YthkmckmfgglafaaGreatW.PrintMore
open Go.Proofs.YthkmckmfgglafaaGreat.A
attribute [local go_sem] max2_int min2_int max_two min_two max_three min_three max_four min_four   -- for this text's walks alone
set_option linter.unusedVariables false
set_option linter.unusedSimpArgs false
attribute [local go_sem high] eqA23
def day_inside.f (a0 : Int) : Option (Bool) := (civil_Date.f a0).bind fun bt143 => (if bt143.2.2.2 = 0 then (if bt143.1 ≥ (-4712) then (some (decide (bt143.1 ≤ 294276))) else (some false)) else (some false))
set_option maxRecDepth 100000 in
theorem day_inside.vc (a0 : Int) (K : AV → Prop) : afv PA Tryz.prog (tab [(90, civil_Date.con)]) noLoops 2 96 [.int .i64 a0] K = (brc (Option.isSome (civil_Date.f a0)) (∀ (m0 : Int), m0 = Prod.fst (gd (civil_Date.f a0)) → ∀ (m1 : Int), m1 = Prod.fst (Prod.snd (gd (civil_Date.f a0))) → ∀ (m2 : Int), m2 = Prod.fst (Prod.snd (Prod.snd (gd (civil_Date.f a0)))) → ∀ (m3 : Int), m3 = Prod.snd (Prod.snd (Prod.snd (gd (civil_Date.f a0)))) → brc (m3 == 0) (brc (decide (m0 ≥ -4712)) (K (AV.bool (decide (m0 ≤ 294276)))) (K (AV.bool false))) (K (AV.bool false))) False) := by kernel_rfl
set_option maxHeartbeats 1000000 in
set_option maxRecDepth 100000 in
theorem day_inside.calls (a0 : Int) (r : Bool) (w : World) (h : day_inside.f a0 = some r) :
    Calls Tryz.prog 96 #[.int .i64 a0] w fun e w' => e = .returned (.bool r) ∧ Below w.heap.size w w' := by
  refine calls_of_vc (A := [.int .i64 a0]) (v := .bool r) (tab_cons (civil_Date.cok) (tab_nil)) ((day_inside.vc a0 _).mpr ?_) (by simp [rl_cons, rl_nil, rv_int, rv_bool, rv_str, rv_agg, rv_fn]) (fun ρ V' hV => by simpa [rl_cons, rl_nil, rv_int, rv_bool, rv_str, rv_agg, rv_tup] using hV)
  unfold day_inside.f at h
  (try simp only [bne, Option.bind_eq_some_iff, ite_some_iff] at h)
  (try simp only [bne, brc_iff, wrap_i64])
  first
    | grind (splits := 60) [gd_some]
    | ((repeat' (first | (have or_ : Or _ _ := h; clear or_; rcases h with h | h) | (have or_ : Exists _ := h; clear or_; obtain ⟨_, h⟩ := h) | (have or_ : And _ _ := h; clear or_; obtain ⟨hq_, h⟩ := h))) <;> (try simp only [Option.some.injEq, Prod.mk.injEq, reduceCtorEq] at h) <;> (try subst_vars) <;> first | (simp_all [gd_some] <;> (try omega) <;> done) | grind (splits := 60) [gd_some])
    | (intros; subst_vars; simp_all [gd_some]; done)
noncomputable def day_inside.con : Con
  | [.int .i64 a0] => some ((day_inside.f a0).isSome, .bool (gd (day_inside.f a0)))
  | _ => none
set_option maxRecDepth 100000 in
theorem day_inside.cok : COk Tryz.prog 96 (day_inside.con) := by
  intro args p v hc hp w A hA
  unfold day_inside.con at hc
  split at hc
  · rename_i a0
    simp only [Option.some.injEq, Prod.mk.injEq] at hc
    obtain ⟨rfl, rfl⟩ := hc
    rcases hf : day_inside.f a0 with _ | r
    · rw [hf] at hp; cases hp
    obtain rfl : A = [.int .i64 a0] := by simpa [rl_cons, rl_nil, rv_int, rv_bool, rv_str, rv_agg, rv_fn] using hA
    exact gives_of_calls (fn := Tryz.f96) Tryz.func96 (by kernel_rfl) (by kernel_rfl) (day_inside.calls _ _ w hf) (fun _ => by simp [gd_some, rl_cons, rl_nil, rv_int, rv_bool, rv_str, rv_agg, rv_tup]) (fun _ h => h)
  · cases hc
def day_RightStamp.f (k : Nat) (a0_0 : Int) (a0_1 : Int) : Option (Bool) := (num_Split.f k a0_1).bind fun bt148 => (if (a0_0 == (-1) && (a0_1 == 0)) = true then (some true) else (if (a0_0 == 1 && (a0_1 == 0)) = true then (some true) else (if a0_0 = 0 then ((day_inside.f bt148.1).bind fun t152 => (some t152)) else (some false))))
theorem day_RightStamp.mono : ∀ a0 a1 k, LeO (day_RightStamp.f k a0 a1) (day_RightStamp.f (k + 1) a0 a1) := by
  intro a0 a1 k
  unfold day_RightStamp.f
  repeat' first
      | (with_reducible exact num_Split.mono _ _)
      | (with_reducible exact LeO.refl _)
      | (with_reducible exact LeO.none _)
      | (with_reducible refine LeO.ite ?_ ?_)
      | (with_reducible refine LeO.bind ?_ (fun _ => ?_))
      | exact num_Split.mono _ _
      | exact LeO.none _
      | refine LeO.ite ?_ ?_
      | refine LeO.bind ?_ (fun _ => ?_)
set_option maxRecDepth 100000 in
theorem day_RightStamp.vc (k : Nat) (a0_0 : Int) (a0_1 : Int) (K : AV → Prop) : afv PA Tryz.prog (tab [(84, num_Split.con k), (96, day_inside.con)]) noLoops 2 44 [.agg [.int .i64 a0_0, .int .i64 a0_1]] K = (brc (Option.isSome (num_Split.f k a0_1)) (∀ (m0 : Int), m0 = Prod.fst (gd (num_Split.f k a0_1)) → ∀ (m1 : Int), m1 = Prod.snd (gd (num_Split.f k a0_1)) → brc (a0_0 == -1 && (a0_1 == 0 && true)) (K (AV.bool true)) (brc (a0_0 == 1 && (a0_1 == 0 && true)) (K (AV.bool true)) (brc (a0_0 == 0) (brc (Option.isSome (day_inside.f m0)) (∀ (m2 : Bool), m2 = gd (day_inside.f m0) → K (AV.bool m2)) False) (K (AV.bool false))))) False) := by kernel_rfl
set_option maxHeartbeats 1000000 in
set_option maxRecDepth 100000 in
theorem day_RightStamp.calls (k : Nat) (a0_0 : Int) (a0_1 : Int) (r : Bool) (w : World) (h : day_RightStamp.f k a0_0 a0_1 = some r) :
    Calls Tryz.prog 44 #[.agg #[.int .i64 a0_0, .int .i64 a0_1]] w fun e w' => e = .returned (.bool r) ∧ Below w.heap.size w w' := by
  refine calls_of_vc (A := [.agg #[.int .i64 a0_0, .int .i64 a0_1]]) (v := .bool r) (tab_cons (num_Split.cok k) (tab_cons (day_inside.cok) (tab_nil))) ((day_RightStamp.vc k a0_0 a0_1 _).mpr ?_) (by simp [rl_cons, rl_nil, rv_int, rv_bool, rv_str, rv_agg, rv_fn]) (fun ρ V' hV => by simpa [rl_cons, rl_nil, rv_int, rv_bool, rv_str, rv_agg, rv_tup] using hV)
  unfold day_RightStamp.f at h
  (try simp only [bne, Option.bind_eq_some_iff, ite_some_iff] at h)
  (try simp only [bne, brc_iff, wrap_i64])
  first
    | grind (splits := 60) [gd_some]
    | ((repeat' (first | (have or_ : Or _ _ := h; clear or_; rcases h with h | h) | (have or_ : Exists _ := h; clear or_; obtain ⟨_, h⟩ := h) | (have or_ : And _ _ := h; clear or_; obtain ⟨hq_, h⟩ := h))) <;> (try simp only [Option.some.injEq, Prod.mk.injEq, reduceCtorEq] at h) <;> (try subst_vars) <;> first | (simp_all [gd_some] <;> (try omega) <;> done) | grind (splits := 60) [gd_some])
    | (intros; subst_vars; simp_all [gd_some]; done)
noncomputable def day_RightStamp.con (k : Nat) : Con
  | [.agg [.int .i64 a0_0, .int .i64 a0_1]] => some ((day_RightStamp.f k a0_0 a0_1).isSome, .bool (gd (day_RightStamp.f k a0_0 a0_1)))
  | _ => none
set_option maxRecDepth 100000 in
theorem day_RightStamp.cok (k : Nat) : COk Tryz.prog 44 (day_RightStamp.con k) := by
  intro args p v hc hp w A hA
  unfold day_RightStamp.con at hc
  split at hc
  · rename_i a0_0 a0_1
    simp only [Option.some.injEq, Prod.mk.injEq] at hc
    obtain ⟨rfl, rfl⟩ := hc
    rcases hf : day_RightStamp.f k a0_0 a0_1 with _ | r
    · rw [hf] at hp; cases hp
    obtain rfl : A = [.agg #[.int .i64 a0_0, .int .i64 a0_1]] := by simpa [rl_cons, rl_nil, rv_int, rv_bool, rv_str, rv_agg, rv_fn] using hA
    exact gives_of_calls (fn := Tryz.f44) Tryz.func44 (by kernel_rfl) (by kernel_rfl) (day_RightStamp.calls _ _ _ _ w hf) (fun _ => by simp [gd_some, rl_cons, rl_nil, rv_int, rv_bool, rv_str, rv_agg, rv_tup]) (fun _ h => h)
  · cases hc
theorem day_RightStamp.up {k : Nat} {a0_0 : Int} {a0_1 : Int} {r : Bool} (h : day_RightStamp.f k a0_0 a0_1 = some r) : day_RightStamp.f (k + 1) a0_0 a0_1 = some r := day_RightStamp.mono a0_0 a0_1 k _ h
theorem day_RightStamp.le {a0_0 : Int} {a0_1 : Int} {r : Bool} {k n : Nat} (h : day_RightStamp.f k a0_0 a0_1 = some r) (hk : k ≤ n) : day_RightStamp.f n a0_0 a0_1 = some r := by
  induction hk with
  | refl => exact h
  | step _ ih => exact day_RightStamp.up ih
def day_Of.f (k : Nat) (a0_0 : Int) (a0_1 : Int) : Option (Int × Int × Int × Int) := (day_RightStamp.f k a0_0 a0_1).bind fun t155 => (if t155 = true then (if a0_0 = 0 then ((num_Split.f k a0_1).bind fun bt156 => (some (0, bt156.1, bt156.2, 0))) else (some (a0_0, 0, 0, 0))) else (some (0, 0, 0, 1)))
theorem day_Of.mono : ∀ a0 a1 k, LeO (day_Of.f k a0 a1) (day_Of.f (k + 1) a0 a1) := by
  intro a0 a1 k
  unfold day_Of.f
  repeat' first
      | (with_reducible exact day_RightStamp.mono _ _ _)
      | (with_reducible exact num_Split.mono _ _)
      | (with_reducible exact LeO.refl _)
      | (with_reducible exact LeO.none _)
      | (with_reducible refine LeO.ite ?_ ?_)
      | (with_reducible refine LeO.bind ?_ (fun _ => ?_))
      | exact day_RightStamp.mono _ _ _
      | exact num_Split.mono _ _
      | exact LeO.none _
      | refine LeO.ite ?_ ?_
      | refine LeO.bind ?_ (fun _ => ?_)
set_option maxRecDepth 100000 in
theorem day_Of.vc (k : Nat) (a0_0 : Int) (a0_1 : Int) (K : AV → Prop) : afv PA Tryz.prog (tab [(44, day_RightStamp.con k), (84, num_Split.con k)]) noLoops 2 30 [.agg [.int .i64 a0_0, .int .i64 a0_1]] K = (brc (Option.isSome (day_RightStamp.f k a0_0 a0_1)) (∀ (m0 : Bool), m0 = gd (day_RightStamp.f k a0_0 a0_1) → brc (!m0) (K (AV.tup [AV.agg [AV.int IntKind.i64 0, AV.int IntKind.i64 0], AV.int IntKind.i64 0, AV.int IntKind.i64 1])) (brc (a0_0 != 0) (K (AV.tup [AV.agg [AV.int IntKind.i64 a0_0, AV.int IntKind.i64 0], AV.int IntKind.i64 0, AV.int IntKind.i64 0])) (brc (Option.isSome (num_Split.f k a0_1)) (∀ (m1 : Int), m1 = Prod.fst (gd (num_Split.f k a0_1)) → ∀ (m2 : Int), m2 = Prod.snd (gd (num_Split.f k a0_1)) → K (AV.tup [AV.agg [AV.int IntKind.i64 0, AV.int IntKind.i64 m1], AV.int IntKind.i64 m2, AV.int IntKind.i64 0])) False))) False) := by kernel_rfl
set_option maxHeartbeats 1000000 in
set_option maxRecDepth 100000 in
theorem day_Of.calls (k : Nat) (a0_0 : Int) (a0_1 : Int) (r1 : Int) (r2 : Int) (r3 : Int) (r4 : Int) (w : World) (h : day_Of.f k a0_0 a0_1 = some (r1, r2, r3, r4)) :
    Calls Tryz.prog 30 #[.agg #[.int .i64 a0_0, .int .i64 a0_1]] w fun e w' => e = .returned (.tuple #[.agg #[.int .i64 r1, .int .i64 r2], .int .i64 r3, .int .i64 r4]) ∧ Below w.heap.size w w' := by
  refine calls_of_vc (A := [.agg #[.int .i64 a0_0, .int .i64 a0_1]]) (v := .tup [.agg [.int .i64 r1, .int .i64 r2], .int .i64 r3, .int .i64 r4]) (tab_cons (day_RightStamp.cok k) (tab_cons (num_Split.cok k) (tab_nil))) ((day_Of.vc k a0_0 a0_1 _).mpr ?_) (by simp [rl_cons, rl_nil, rv_int, rv_bool, rv_str, rv_agg, rv_fn]) (fun ρ V' hV => by simpa [rl_cons, rl_nil, rv_int, rv_bool, rv_str, rv_agg, rv_tup] using hV)
  unfold day_Of.f at h
  (try simp only [bne, Option.bind_eq_some_iff, ite_some_iff] at h)
  (try simp only [bne, brc_iff, wrap_i64])
  first
    | grind (splits := 60) [gd_some]
    | ((repeat' (first | (have or_ : Or _ _ := h; clear or_; rcases h with h | h) | (have or_ : Exists _ := h; clear or_; obtain ⟨_, h⟩ := h) | (have or_ : And _ _ := h; clear or_; obtain ⟨hq_, h⟩ := h))) <;> (try simp only [Option.some.injEq, Prod.mk.injEq, reduceCtorEq] at h) <;> (try subst_vars) <;> first | (simp_all [gd_some] <;> (try omega) <;> done) | grind (splits := 60) [gd_some])
    | (intros; subst_vars; simp_all [gd_some]; done)
end Go.Proofs.YthkmckmfgglafaaGreat.P
namespace Go.Proofs.YthkmckmfgglafaaGreat.P
open Go.RowKit Go.Proofs.YthkmckmfgglafaaGreatW.PrintWords Go.Proofs.YthkmckmfgglafaaGreatW.PrintLast Go.Proofs.YthkmckmfgglafaaGreatW.PrintMore
attribute [local go_sem] max2_int min2_int max_two min_two max_three min_three max_four min_four   -- for this text's walks alone
set_option linter.unusedVariables false
set_option linter.unusedSimpArgs false
theorem eqA37 (d : Nat) (w : World) (x0 y0 : Int) (x1 y1 : Int) :
    (Op.equalIn (d + 2) 37 (.agg #[.int .i64 x0, .int .i64 x1]) (.agg #[.int .i64 y0, .int .i64 y1])).run Tryz.prog w = .ok (x0 == y0 && (x1 == y1)) w := by
  refine eqA_of Tryz.underlying37 (by kernel_rfl) ?_
  refine eqf_cons (by rfl) (by go_simp; rfl) (by go_simp; rfl) (by go_simp) ?_
  exact eqf_last (by rfl) (by go_simp; rfl) (by go_simp; rfl) (by go_simp)
end Go.Proofs.YthkmckmfgglafaaGreat.P
namespace Go.Proofs.YthkmckmfgglafaaGreat.P
open Go.RowKit Go.Proofs.YthkmckmfgglafaaGreatW.PrintWords Go.Proofs.YthkmckmfgglafaaGreatW.PrintLast Go.Proofs.YthkmckmfgglafaaGreatW.PrintMore
open Go.Proofs.YthkmckmfgglafaaGreat.A
attribute [local go_sem] max2_int min2_int max_two min_two max_three min_three max_four min_four   -- for this text's walks alone
set_option linter.unusedVariables false
set_option linter.unusedSimpArgs false
attribute [local go_sem high] eqA37
def ops_floor.f (k : Nat) (a0 : Int) (a1 : Int) : Option (Int) := (num_Div.f k a0 a1).bind fun bt175 => (some bt175.1)
theorem ops_floor.mono : ∀ a0 a1 k, LeO (ops_floor.f k a0 a1) (ops_floor.f (k + 1) a0 a1) := by
  intro a0 a1 k
  unfold ops_floor.f
  repeat' first
      | (with_reducible exact num_Div.mono _ _ _)
      | (with_reducible exact LeO.refl _)
      | (with_reducible exact LeO.none _)
      | (with_reducible refine LeO.ite ?_ ?_)
      | (with_reducible refine LeO.bind ?_ (fun _ => ?_))
      | exact num_Div.mono _ _ _
      | exact LeO.none _
      | refine LeO.ite ?_ ?_
      | refine LeO.bind ?_ (fun _ => ?_)
set_option maxHeartbeats 8000000 in
set_option maxRecDepth 100000 in
theorem ops_floor.calls (k : Nat) (a0 : Int) (a1 : Int) (r : Int) (w : World) (h : ops_floor.f k a0 a1 = some r) :
    Calls Tryz.prog 34 #[.int .i64 a0, .int .i64 a1] w fun e w' => e = .returned (.int .i64 r) ∧ Below w.heap.size w w' := by
  have HB := Aside0.mk (Below.refl w.heap.size w)
  have H : ((num_Div.f k a0 a1).bind fun bt175 => (some bt175.1)) = some r := h
  clear h
  replace H := Option.bind_eq_some_iff.mp H
  obtain ⟨⟨t175, t176⟩, A30, H⟩ := H
  replace H : (some t175) = some r := H
  have A3 := Aside0.mk A30
  clear A30
  obtain rfl := Option.some.inj H
  go_enter Tryz.func34, Tryz.ntmps34
  go_wp2_with (first | ((with_reducible refine kM (f := 87) rfl ?_); refine goesL_ (some 10) rfl rfl Tryz.func87 (by kernel_rfl) rfl #[.int .i64 a0, .int .i64 a1] rfl (by (try simp only [List.map_toArray, List.map_cons, List.map_nil]); first | done | rfl | (simp only [List.length_drop, List.length_take]; rfl)) ?_; (with_reducible refine (num_Div.calls k a0 a1 t175 t176 _ A3.out).mono ?_); rintro e w4 ⟨rfl, hb⟩; refine ⟨_, rfl, ?_⟩; have n0_ := Aside0.mk (kK (by repeat (first | (with_reducible first | exact HB.out | apply kC | apply kA | apply kB) | exact HB.out)) hb); clear HB; have HB := n0_; clear n0_; (try clear hb); (try clear hb2); (try clear hk); (try clear hi)))
  go_ret
  exact ⟨by first | rfl | (simp [errW_none, errW_some] <;> rfl) | (simp [*, errW_none, errW_some] <;> rfl), by repeat (first | (with_reducible first | exact HB.out | apply kC | apply kA | apply kB) | exact HB.out)⟩
def civil_Weekday.f (a0 : Int) : Option (Int) := (civil_floor.f a0 7).bind fun bt177 => (some (Int.tmod (wrap64 (bt177.2 + 6)) 7))
set_option maxHeartbeats 8000000 in
set_option maxRecDepth 100000 in
theorem civil_Weekday.calls (a0 : Int) (r : Int) (w : World) (h : civil_Weekday.f a0 = some r) :
    Calls Tryz.prog 36 #[.int .i64 a0] w fun e w' => e = .returned (.int .i64 r) ∧ Drawn0 w w' := by
  have H : ((civil_floor.f a0 7).bind fun bt177 => (some (Int.tmod (wrap64 (bt177.2 + 6)) 7))) = some r := h
  clear h
  replace H := Option.bind_eq_some_iff.mp H
  obtain ⟨⟨t177, t178⟩, A20, H⟩ := H
  replace H : (some (Int.tmod (wrap64 (t178 + 6)) 7)) = some r := H
  have A2 := Aside0.mk A20
  clear A20
  obtain rfl := Option.some.inj H
  go_enter Tryz.func36, Tryz.ntmps36
  go_wp2_with (first | ((with_reducible refine kM (f := 88) rfl ?_); refine goesL_ (some 7) rfl rfl Tryz.func88 (by kernel_rfl) rfl #[.int .i64 a0, .int .i64 7] rfl (by (try simp only [List.map_toArray, List.map_cons, List.map_nil]); first | done | rfl | (simp only [List.length_drop, List.length_take]; rfl)) ?_; (with_reducible refine (civil_floor.calls a0 7 t177 t178 _ A2.out).mono ?_); rintro e w' ⟨rfl, ⟨nd, rfl⟩⟩; refine ⟨_, rfl, ?_⟩))
  go_ret
  exact ⟨by first | rfl | (simp; done) | (simp [*]; done), by repeat (first | exact Drawn0.refl _ | apply Drawn0.step)⟩
def day_Right.f (a0_0 : Int) (a0_1 : Int) : Option (Bool) := if (a0_0 == (-1) && (a0_1 == 0)) = true then (some true) else (if (a0_0 == 1 && (a0_1 == 0)) = true then (some true) else (if a0_0 = 0 then ((day_inside.f a0_1).bind fun t182 => (some t182)) else (some false)))
set_option maxRecDepth 100000 in
theorem day_Right.vc (a0_0 : Int) (a0_1 : Int) (K : AV → Prop) : afv PA Tryz.prog (tab [(96, day_inside.con)]) noLoops 2 89 [.agg [.int .i64 a0_0, .int .i64 a0_1]] K = (brc (a0_0 == -1 && (a0_1 == 0 && true)) (K (AV.bool true)) (brc (a0_0 == 1 && (a0_1 == 0 && true)) (K (AV.bool true)) (brc (a0_0 == 0) (brc (Option.isSome (day_inside.f a0_1)) (∀ (m0 : Bool), m0 = gd (day_inside.f a0_1) → K (AV.bool m0)) False) (K (AV.bool false))))) := by kernel_rfl
set_option maxHeartbeats 1000000 in
set_option maxRecDepth 100000 in
theorem day_Right.calls (a0_0 : Int) (a0_1 : Int) (r : Bool) (w : World) (h : day_Right.f a0_0 a0_1 = some r) :
    Calls Tryz.prog 89 #[.agg #[.int .i64 a0_0, .int .i64 a0_1]] w fun e w' => e = .returned (.bool r) ∧ Below w.heap.size w w' := by
  refine calls_of_vc (A := [.agg #[.int .i64 a0_0, .int .i64 a0_1]]) (v := .bool r) (tab_cons (day_inside.cok) (tab_nil)) ((day_Right.vc a0_0 a0_1 _).mpr ?_) (by simp [rl_cons, rl_nil, rv_int, rv_bool, rv_str, rv_agg, rv_fn]) (fun ρ V' hV => by simpa [rl_cons, rl_nil, rv_int, rv_bool, rv_str, rv_agg, rv_tup] using hV)
  unfold day_Right.f at h
  (try simp only [bne, Option.bind_eq_some_iff, ite_some_iff] at h)
  (try simp only [bne, brc_iff, wrap_i64])
  first
    | grind (splits := 60) [gd_some]
    | ((repeat' (first | (have or_ : Or _ _ := h; clear or_; rcases h with h | h) | (have or_ : Exists _ := h; clear or_; obtain ⟨_, h⟩ := h) | (have or_ : And _ _ := h; clear or_; obtain ⟨hq_, h⟩ := h))) <;> (try simp only [Option.some.injEq, Prod.mk.injEq, reduceCtorEq] at h) <;> (try subst_vars) <;> first | (simp_all [gd_some] <;> (try omega) <;> done) | grind (splits := 60) [gd_some])
    | (intros; subst_vars; simp_all [gd_some]; done)
noncomputable def day_Right.con : Con
  | [.agg [.int .i64 a0_0, .int .i64 a0_1]] => some ((day_Right.f a0_0 a0_1).isSome, .bool (gd (day_Right.f a0_0 a0_1)))
  | _ => none
set_option maxRecDepth 100000 in
theorem day_Right.cok : COk Tryz.prog 89 (day_Right.con) := by
  intro args p v hc hp w A hA
  unfold day_Right.con at hc
  split at hc
  · rename_i a0_0 a0_1
    simp only [Option.some.injEq, Prod.mk.injEq] at hc
    obtain ⟨rfl, rfl⟩ := hc
    rcases hf : day_Right.f a0_0 a0_1 with _ | r
    · rw [hf] at hp; cases hp
    obtain rfl : A = [.agg #[.int .i64 a0_0, .int .i64 a0_1]] := by simpa [rl_cons, rl_nil, rv_int, rv_bool, rv_str, rv_agg, rv_fn] using hA
    exact gives_of_calls (fn := Tryz.f89) Tryz.func89 (by kernel_rfl) (by kernel_rfl) (day_Right.calls _ _ _ w hf) (fun _ => by simp [gd_some, rl_cons, rl_nil, rv_int, rv_bool, rv_str, rv_agg, rv_tup]) (fun _ h => h)
  · cases hc
end Go.Proofs.YthkmckmfgglafaaGreat.P
namespace Go.Proofs.YthkmckmfgglafaaGreat.P
open Go.RowKit Go.Proofs.YthkmckmfgglafaaGreatW.PrintWords Go.Proofs.YthkmckmfgglafaaGreatW.PrintLast Go.Proofs.YthkmckmfgglafaaGreatW.PrintMore
open Go.Proofs.YthkmckmfgglafaaGreat.A
attribute [local go_sem] max2_int min2_int max_two min_two max_three min_three max_four min_four   -- for this text's walks alone
set_option linter.unusedVariables false
set_option linter.unusedSimpArgs false
def day_Parts.f (a0_0 : Int) (a0_1 : Int) : Option (Int × Int × Int × Int) := (day_Right.f a0_0 a0_1).bind fun t184 => (if t184 = true then (if a0_0 = 0 then ((civil_Date.f a0_1).bind fun bt185 => (some (bt185.1, bt185.2.1, bt185.2.2.1, bt185.2.2.2))) else (some (0, 0, 0, 10))) else (some (0, 0, 0, 1)))
set_option maxRecDepth 100000 in
theorem day_Parts.vc (a0_0 : Int) (a0_1 : Int) (K : AV → Prop) : afv PA Tryz.prog (tab [(89, day_Right.con), (90, civil_Date.con)]) noLoops 2 37 [.agg [.int .i64 a0_0, .int .i64 a0_1]] K = (brc (Option.isSome (day_Right.f a0_0 a0_1)) (∀ (m0 : Bool), m0 = gd (day_Right.f a0_0 a0_1) → brc (!m0) (K (AV.tup [AV.int IntKind.i64 0, AV.int IntKind.i64 0, AV.int IntKind.i64 0, AV.int IntKind.i64 1])) (brc (a0_0 != 0) (K (AV.tup [AV.int IntKind.i64 0, AV.int IntKind.i64 0, AV.int IntKind.i64 0, AV.int IntKind.i64 10])) (brc (Option.isSome (civil_Date.f a0_1)) (∀ (m1 : Int), m1 = Prod.fst (gd (civil_Date.f a0_1)) → ∀ (m2 : Int), m2 = Prod.fst (Prod.snd (gd (civil_Date.f a0_1))) → ∀ (m3 : Int), m3 = Prod.fst (Prod.snd (Prod.snd (gd (civil_Date.f a0_1)))) → ∀ (m4 : Int), m4 = Prod.snd (Prod.snd (Prod.snd (gd (civil_Date.f a0_1)))) → K (AV.tup [AV.int IntKind.i64 m1, AV.int IntKind.i64 m2, AV.int IntKind.i64 m3, AV.int IntKind.i64 m4])) False))) False) := by kernel_rfl
set_option maxHeartbeats 1000000 in
set_option maxRecDepth 100000 in
theorem day_Parts.calls (a0_0 : Int) (a0_1 : Int) (r1 : Int) (r2 : Int) (r3 : Int) (r4 : Int) (w : World) (h : day_Parts.f a0_0 a0_1 = some (r1, r2, r3, r4)) :
    Calls Tryz.prog 37 #[.agg #[.int .i64 a0_0, .int .i64 a0_1]] w fun e w' => e = .returned (.tuple #[.int .i64 r1, .int .i64 r2, .int .i64 r3, .int .i64 r4]) ∧ Below w.heap.size w w' := by
  refine calls_of_vc (A := [.agg #[.int .i64 a0_0, .int .i64 a0_1]]) (v := .tup [.int .i64 r1, .int .i64 r2, .int .i64 r3, .int .i64 r4]) (tab_cons (day_Right.cok) (tab_cons (civil_Date.cok) (tab_nil))) ((day_Parts.vc a0_0 a0_1 _).mpr ?_) (by simp [rl_cons, rl_nil, rv_int, rv_bool, rv_str, rv_agg, rv_fn]) (fun ρ V' hV => by simpa [rl_cons, rl_nil, rv_int, rv_bool, rv_str, rv_agg, rv_tup] using hV)
  unfold day_Parts.f at h
  (try simp only [bne, Option.bind_eq_some_iff, ite_some_iff] at h)
  (try simp only [bne, brc_iff, wrap_i64])
  first
    | grind (splits := 60) [gd_some]
    | ((repeat' (first | (have or_ : Or _ _ := h; clear or_; rcases h with h | h) | (have or_ : Exists _ := h; clear or_; obtain ⟨_, h⟩ := h) | (have or_ : And _ _ := h; clear or_; obtain ⟨hq_, h⟩ := h))) <;> (try simp only [Option.some.injEq, Prod.mk.injEq, reduceCtorEq] at h) <;> (try subst_vars) <;> first | (simp_all [gd_some] <;> (try omega) <;> done) | grind (splits := 60) [gd_some])
    | (intros; subst_vars; simp_all [gd_some]; done)
def day_finite.f (a0 : Int) (a1 : Int) : Option (Int × Int × Int) := if a1 = 0 then ((day_inside.f a0).bind fun t193 => (if t193 = true then (some (0, a0, 0)) else (some (0, 0, 10)))) else (some (0, 0, 10))
set_option maxRecDepth 100000 in
theorem day_finite.vc (a0 : Int) (a1 : Int) (K : AV → Prop) : afv PA Tryz.prog (tab [(96, day_inside.con)]) noLoops 2 91 [.int .i64 a0, .int .i64 a1] K = (brc (a1 != 0) (K (AV.tup [AV.agg [AV.int IntKind.i64 0, AV.int IntKind.i64 0], AV.int IntKind.i64 10])) (brc (Option.isSome (day_inside.f a0)) (∀ (m0 : Bool), m0 = gd (day_inside.f a0) → brc (!m0) (K (AV.tup [AV.agg [AV.int IntKind.i64 0, AV.int IntKind.i64 0], AV.int IntKind.i64 10])) (K (AV.tup [AV.agg [AV.int IntKind.i64 0, AV.int IntKind.i64 a0], AV.int IntKind.i64 0]))) False)) := by kernel_rfl
set_option maxHeartbeats 1000000 in
set_option maxRecDepth 100000 in
theorem day_finite.calls (a0 : Int) (a1 : Int) (r1 : Int) (r2 : Int) (r3 : Int) (w : World) (h : day_finite.f a0 a1 = some (r1, r2, r3)) :
    Calls Tryz.prog 91 #[.int .i64 a0, .int .i64 a1] w fun e w' => e = .returned (.tuple #[.agg #[.int .i64 r1, .int .i64 r2], .int .i64 r3]) ∧ Below w.heap.size w w' := by
  refine calls_of_vc (A := [.int .i64 a0, .int .i64 a1]) (v := .tup [.agg [.int .i64 r1, .int .i64 r2], .int .i64 r3]) (tab_cons (day_inside.cok) (tab_nil)) ((day_finite.vc a0 a1 _).mpr ?_) (by simp [rl_cons, rl_nil, rv_int, rv_bool, rv_str, rv_agg, rv_fn]) (fun ρ V' hV => by simpa [rl_cons, rl_nil, rv_int, rv_bool, rv_str, rv_agg, rv_tup] using hV)
  unfold day_finite.f at h
  (try simp only [bne, Option.bind_eq_some_iff, ite_some_iff] at h)
  (try simp only [bne, brc_iff, wrap_i64])
  first
    | grind (splits := 60) [gd_some]
    | ((repeat' (first | (have or_ : Or _ _ := h; clear or_; rcases h with h | h) | (have or_ : Exists _ := h; clear or_; obtain ⟨_, h⟩ := h) | (have or_ : And _ _ := h; clear or_; obtain ⟨hq_, h⟩ := h))) <;> (try simp only [Option.some.injEq, Prod.mk.injEq, reduceCtorEq] at h) <;> (try subst_vars) <;> first | (simp_all [gd_some] <;> (try omega) <;> done) | grind (splits := 60) [gd_some])
    | (intros; subst_vars; simp_all [gd_some]; done)
noncomputable def day_finite.con : Con
  | [.int .i64 a0, .int .i64 a1] => some ((day_finite.f a0 a1).isSome, .tup [.agg [.int .i64 (gd (day_finite.f a0 a1)).1, .int .i64 (gd (day_finite.f a0 a1)).2.1], .int .i64 (gd (day_finite.f a0 a1)).2.2])
  | _ => none
set_option maxRecDepth 100000 in
theorem day_finite.cok : COk Tryz.prog 91 (day_finite.con) := by
  intro args p v hc hp w A hA
  unfold day_finite.con at hc
  split at hc
  · rename_i a0 a1
    simp only [Option.some.injEq, Prod.mk.injEq] at hc
    obtain ⟨rfl, rfl⟩ := hc
    rcases hf : day_finite.f a0 a1 with _ | ⟨r1, r2, r3⟩
    · rw [hf] at hp; cases hp
    obtain rfl : A = [.int .i64 a0, .int .i64 a1] := by simpa [rl_cons, rl_nil, rv_int, rv_bool, rv_str, rv_agg, rv_fn] using hA
    exact gives_of_calls (fn := Tryz.f91) Tryz.func91 (by kernel_rfl) (by kernel_rfl) (day_finite.calls _ _ _ _ _ w hf) (fun _ => by simp [gd_some, rl_cons, rl_nil, rv_int, rv_bool, rv_str, rv_agg, rv_tup]) (fun _ h => h)
  · cases hc
def civil_Leap.f (a0 : Int) : Option (Bool) := if (Int.tmod a0 4) = 0 then (if (Int.tmod a0 100) = 0 then (some ((Int.tmod a0 400) == 0)) else (some true)) else (some false)
set_option maxHeartbeats 8000000 in
set_option maxRecDepth 100000 in
theorem civil_Leap.calls (a0 : Int) (r : Bool) (w : World) (h : civil_Leap.f a0 = some r) :
    Calls Tryz.prog 203 #[.int .i64 a0] w fun e w' => e = .returned (.bool r) ∧ Drawn0 w w' := by
  have H : (if (Int.tmod a0 4) = 0 then (if (Int.tmod a0 100) = 0 then (some ((Int.tmod a0 400) == 0)) else (some true)) else (some false)) = some r := h
  clear h
  by_cases c2 : (Int.tmod a0 4) = 0
  · rw [if_pos c2] at H
    have c2b0 : ((Int.tmod a0 4) == 0) = true := beq_iff_eq.mpr c2
    have c2b1 : ((Int.tmod a0 4) != 0) = false := bne_eq_false_iff_eq.mpr c2
    clear c2
    by_cases c3 : (Int.tmod a0 100) = 0
    · rw [if_pos c3] at H
      have c3b0 : ((Int.tmod a0 100) == 0) = true := beq_iff_eq.mpr c3
      have c3b1 : ((Int.tmod a0 100) != 0) = false := bne_eq_false_iff_eq.mpr c3
      clear c3
      obtain rfl := Option.some.inj H
      go_enter Tryz.func203, Tryz.ntmps203
      go_wp2
      go_ret
      exact ⟨by first | rfl | (simp; done) | (simp [*]; done), by repeat (first | exact Drawn0.refl _ | apply Drawn0.step)⟩
    · rw [if_neg c3] at H
      have c3b0 : ((Int.tmod a0 100) == 0) = false := beq_eq_false_iff_ne.mpr c3
      have c3b1 : ((Int.tmod a0 100) != 0) = true := bne_iff_ne.mpr c3
      obtain rfl := Option.some.inj H
      go_enter Tryz.func203, Tryz.ntmps203
      go_wp2
      go_ret
      exact ⟨by first | rfl | (simp; done) | (simp [*]; done), by repeat (first | exact Drawn0.refl _ | apply Drawn0.step)⟩
  · rw [if_neg c2] at H
    have c2b0 : ((Int.tmod a0 4) == 0) = false := beq_eq_false_iff_ne.mpr c2
    have c2b1 : ((Int.tmod a0 4) != 0) = true := bne_iff_ne.mpr c2
    obtain rfl := Option.some.inj H
    go_enter Tryz.func203, Tryz.ntmps203
    go_wp2
    go_ret
    exact ⟨by first | rfl | (simp; done) | (simp [*]; done), by repeat (first | exact Drawn0.refl _ | apply Drawn0.step)⟩
end Go.Proofs.YthkmckmfgglafaaGreat.P
namespace Go.Proofs.YthkmckmfgglafaaGreat.P
open Go.RowKit Go.Proofs.YthkmckmfgglafaaGreatW.PrintWords Go.Proofs.YthkmckmfgglafaaGreatW.PrintLast Go.Proofs.YthkmckmfgglafaaGreatW.PrintMore
open Go.Proofs.YthkmckmfgglafaaGreat.A
attribute [local go_sem] max2_int min2_int max_two min_two max_three min_three max_four min_four   -- for this text's walks alone
set_option linter.unusedVariables false
set_option linter.unusedSimpArgs false
def civil_Len.t (a1 : Int) : Int := if a1 = 2 then 28 else if a1 = 4 then 30 else if a1 = 6 then 30 else if a1 = 9 then 30 else if a1 = 11 then 30 else 31
def civil_Len.f (a0 : Int) (a1 : Int) : Option (Int) := if a1 < 1 then (some 0) else (if a1 > 12 then (some 0) else (if a1 = 2 then ((civil_Leap.f a0).bind fun t103 => (if t103 = true then (some 29) else (some 28))) else (some (civil_Len.t a1))))
set_option maxHeartbeats 8000000 in
set_option maxRecDepth 100000 in
theorem civil_Len.calls (a0 : Int) (a1 : Int) (r : Int) (w : World) (h : civil_Len.f a0 a1 = some r) :
    Calls Tryz.prog 178 #[.int .i64 a0, .int .i64 a1] w fun e w' => e = .returned (.int .i64 r) ∧ Below w.heap.size w w' := by
  have H := h
  unfold civil_Len.f at H
  clear h
  by_cases c2 : a1 < 1
  · rw [if_pos c2] at H
    have c2b0 : decide (a1 < 1) = true := decide_eq_true c2
    obtain rfl := Option.some.inj H
    clear c2
    go_enter Tryz.func178, Tryz.ntmps178
    go_wp2
    go_ret
    exact ⟨rfl, by repeat (first | exact Below.refl _ _ | exact (Below.refl _ _).alloc (Nat.le_refl _) _ | (apply Below.setCell _ (by simp)))⟩
  · rw [if_neg c2] at H
    have c2b0 : decide (a1 < 1) = false := decide_eq_false c2
    clear c2
    by_cases c3 : a1 > 12
    · rw [if_pos c3] at H
      have c3b0 : decide (12 < a1) = true := decide_eq_true c3
      obtain rfl := Option.some.inj H
      clear c3
      go_enter Tryz.func178, Tryz.ntmps178
      go_wp2
      go_ret
      exact ⟨rfl, by repeat (first | exact Below.refl _ _ | exact (Below.refl _ _).alloc (Nat.le_refl _) _ | (apply Below.setCell _ (by simp)))⟩
    · rw [if_neg c3] at H
      have c3b0 : decide (12 < a1) = false := decide_eq_false c3
      have hlo : 1 ≤ a1 := by have := of_decide_eq_false c2b0; omega
      have hhi : a1 ≤ 12 := by omega
      clear c3
      by_cases c4 : a1 = 2
      · rw [if_pos c4] at H
        subst c4
        clear c2b0 c3b0 hlo hhi
        replace H := Option.bind_eq_some_iff.mp H
        obtain ⟨t103, A40, H⟩ := H
        have A4 := Aside0.mk A40
        clear A40
        cases t103 with
        | true =>
          obtain rfl := Option.some.inj H
          clear H
          go_enter Tryz.func178, Tryz.ntmps178
          go_wp2_with (go_at_call 203; (with_reducible refine (civil_Leap.calls a0 true _ A4.out).mono ?_); rintro e w' ⟨rfl, ⟨nd, rfl⟩⟩)
          go_ret
          exact ⟨rfl, by repeat (first | exact Below.refl _ _ | exact (Below.refl _ _).alloc (Nat.le_refl _) _ | (apply kA) | (apply below_drew) | (apply Below.setCell _ (by simp)))⟩
        | false =>
          obtain rfl := Option.some.inj H
          clear H
          go_enter Tryz.func178, Tryz.ntmps178
          go_wp2_with (go_at_call 203; (with_reducible refine (civil_Leap.calls a0 false _ A4.out).mono ?_); rintro e w' ⟨rfl, ⟨nd, rfl⟩⟩)
          go_ret
          exact ⟨rfl, by repeat (first | exact Below.refl _ _ | exact (Below.refl _ _).alloc (Nat.le_refl _) _ | (apply kA) | (apply below_drew) | (apply Below.setCell _ (by simp)))⟩
      · rw [if_neg c4] at H
        obtain rfl := Option.some.inj H
        clear H c2b0 c3b0
        rcases (by omega : a1 = 1 ∨ a1 = 3 ∨ a1 = 4 ∨ a1 = 5 ∨ a1 = 6 ∨ a1 = 7 ∨ a1 = 8 ∨ a1 = 9 ∨ a1 = 10 ∨ a1 = 11 ∨ a1 = 12) with e | e | e | e | e | e | e | e | e | e | e <;> subst e <;> clear hlo hhi c4
        all_goals
          go_enter Tryz.func178, Tryz.ntmps178
          go_wp2
          go_ret
          exact ⟨rfl, by repeat (first | exact Below.refl _ _ | exact (Below.refl _ _).alloc (Nat.le_refl _) _ | (apply kA) | (apply below_drew) | (apply Below.setCell _ (by simp)))⟩
def civil_Right.f (a0 : Int) (a1 : Int) (a2 : Int) : Option (Bool) := if a0 ≥ (-4718) then (if a0 ≤ 294282 then (if a2 ≥ 1 then ((civil_Len.f a0 a1).bind fun t194 => (some (decide (a2 ≤ t194)))) else (some false)) else (some false)) else (some false)
set_option maxHeartbeats 8000000 in
set_option maxRecDepth 100000 in
theorem civil_Right.calls (a0 : Int) (a1 : Int) (a2 : Int) (r : Bool) (w : World) (h : civil_Right.f a0 a1 a2 = some r) :
    Calls Tryz.prog 131 #[.int .i64 a0, .int .i64 a1, .int .i64 a2] w fun e w' => e = .returned (.bool r) ∧ Below w.heap.size w w' := by
  have HB := Aside0.mk (Below.refl w.heap.size w)
  have H : (if a0 ≥ (-4718) then (if a0 ≤ 294282 then (if a2 ≥ 1 then ((civil_Len.f a0 a1).bind fun t194 => (some (decide (a2 ≤ t194)))) else (some false)) else (some false)) else (some false)) = some r := h
  clear h
  by_cases c4 : a0 ≥ (-4718)
  · rw [if_pos c4] at H
    have c4b0 : decide ((-4718) ≤ a0) = true := decide_eq_true c4
    clear c4
    by_cases c5 : a0 ≤ 294282
    · rw [if_pos c5] at H
      have c5b0 : decide (a0 ≤ 294282) = true := decide_eq_true c5
      clear c5
      by_cases c6 : a2 ≥ 1
      · rw [if_pos c6] at H
        have c6b0 : decide (1 ≤ a2) = true := decide_eq_true c6
        clear c6
        replace H := Option.bind_eq_some_iff.mp H
        obtain ⟨t194, A70, H⟩ := H
        replace H : (some (decide (a2 ≤ t194))) = some r := H
        have A7 := Aside0.mk A70
        clear A70
        obtain rfl := Option.some.inj H
        go_enter Tryz.func131, Tryz.ntmps131
        go_wp2_with (first | (go_at_call 178; (with_reducible refine (civil_Len.calls a0 a1 t194 _ A7.out).mono ?_); rintro e w8 ⟨rfl, hb⟩; have n0_ := Aside0.mk (kK (by repeat (first | (with_reducible first | exact HB.out | apply kC | apply kA | apply kB) | exact HB.out)) hb); clear HB; have HB := n0_; clear n0_; (try clear hb); (try clear hb2); (try clear hk); (try clear hi)))
        go_ret
        exact ⟨by first | rfl | (simp [errW_none, errW_some] <;> rfl) | (simp [*, errW_none, errW_some] <;> rfl), by repeat (first | (with_reducible first | exact HB.out | apply kC | apply kA | apply kB) | exact HB.out)⟩
      · rw [if_neg c6] at H
        have c6b0 : decide (1 ≤ a2) = false := decide_eq_false c6
        clear c6
        obtain rfl := Option.some.inj H
        go_enter Tryz.func131, Tryz.ntmps131
        go_wp2
        go_ret
        exact ⟨by first | rfl | (simp [errW_none, errW_some] <;> rfl) | (simp [*, errW_none, errW_some] <;> rfl), by repeat (first | (with_reducible first | exact HB.out | apply kC | apply kA | apply kB) | exact HB.out)⟩
    · rw [if_neg c5] at H
      have c5b0 : decide (a0 ≤ 294282) = false := decide_eq_false c5
      clear c5
      obtain rfl := Option.some.inj H
      go_enter Tryz.func131, Tryz.ntmps131
      go_wp2
      go_ret
      exact ⟨by first | rfl | (simp [errW_none, errW_some] <;> rfl) | (simp [*, errW_none, errW_some] <;> rfl), by repeat (first | (with_reducible first | exact HB.out | apply kC | apply kA | apply kB) | exact HB.out)⟩
  · rw [if_neg c4] at H
    have c4b0 : decide ((-4718) ≤ a0) = false := decide_eq_false c4
    clear c4
    obtain rfl := Option.some.inj H
    go_enter Tryz.func131, Tryz.ntmps131
    go_wp2
    go_ret
    exact ⟨by first | rfl | (simp [errW_none, errW_some] <;> rfl) | (simp [*, errW_none, errW_some] <;> rfl), by repeat (first | (with_reducible first | exact HB.out | apply kC | apply kA | apply kB) | exact HB.out)⟩
noncomputable def civil_Right.con : Con
  | [.int .i64 a0, .int .i64 a1, .int .i64 a2] => some ((civil_Right.f a0 a1 a2).isSome, .bool (gd (civil_Right.f a0 a1 a2)))
  | _ => none
set_option maxRecDepth 100000 in
theorem civil_Right.cok : COk Tryz.prog 131 (civil_Right.con) := by
  intro args p v hc hp w A hA
  unfold civil_Right.con at hc
  split at hc
  · rename_i a0 a1 a2
    simp only [Option.some.injEq, Prod.mk.injEq] at hc
    obtain ⟨rfl, rfl⟩ := hc
    rcases hf : civil_Right.f a0 a1 a2 with _ | r
    · rw [hf] at hp; cases hp
    obtain rfl : A = [.int .i64 a0, .int .i64 a1, .int .i64 a2] := by simpa [rl_cons, rl_nil, rv_int, rv_bool, rv_str, rv_agg, rv_fn] using hA
    exact gives_of_calls (fn := Tryz.f131) Tryz.func131 (by kernel_rfl) (by kernel_rfl) (civil_Right.calls _ _ _ _ w hf) (fun _ => by simp [gd_some, rl_cons, rl_nil, rv_int, rv_bool, rv_str, rv_agg, rv_tup]) (fun _ h => h)
  · cases hc
def civil_Days.f (a0 : Int) (a1 : Int) (a2 : Int) : Option (Int × Int) := (civil_Right.f a0 a1 a2).bind fun t195 => (if t195 = true then ((civil_day.f a0 a1 a2).bind fun t196 => (some (t196, 0))) else (some (0, 10)))
set_option maxRecDepth 100000 in
theorem civil_Days.vc (a0 : Int) (a1 : Int) (a2 : Int) (K : AV → Prop) : afv PA Tryz.prog (tab [(131, civil_Right.con), (132, civil_day.con)]) noLoops 2 92 [.int .i64 a0, .int .i64 a1, .int .i64 a2] K = (brc (Option.isSome (civil_Right.f a0 a1 a2)) (∀ (m0 : Bool), m0 = gd (civil_Right.f a0 a1 a2) → brc (!m0) (K (AV.tup [AV.int IntKind.i64 0, AV.int IntKind.i64 10])) (brc (Option.isSome (civil_day.f a0 a1 a2)) (∀ (m1 : Int), m1 = gd (civil_day.f a0 a1 a2) → K (AV.tup [AV.int IntKind.i64 m1, AV.int IntKind.i64 0])) False)) False) := by kernel_rfl
set_option maxHeartbeats 1000000 in
set_option maxRecDepth 100000 in
theorem civil_Days.calls (a0 : Int) (a1 : Int) (a2 : Int) (r1 : Int) (r2 : Int) (w : World) (h : civil_Days.f a0 a1 a2 = some (r1, r2)) :
    Calls Tryz.prog 92 #[.int .i64 a0, .int .i64 a1, .int .i64 a2] w fun e w' => e = .returned (.tuple #[.int .i64 r1, .int .i64 r2]) ∧ Below w.heap.size w w' := by
  refine calls_of_vc (A := [.int .i64 a0, .int .i64 a1, .int .i64 a2]) (v := .tup [.int .i64 r1, .int .i64 r2]) (tab_cons (civil_Right.cok) (tab_cons (civil_day.cok) (tab_nil))) ((civil_Days.vc a0 a1 a2 _).mpr ?_) (by simp [rl_cons, rl_nil, rv_int, rv_bool, rv_str, rv_agg, rv_fn]) (fun ρ V' hV => by simpa [rl_cons, rl_nil, rv_int, rv_bool, rv_str, rv_agg, rv_tup] using hV)
  unfold civil_Days.f at h
  (try simp only [bne, Option.bind_eq_some_iff, ite_some_iff] at h)
  (try simp only [bne, brc_iff, wrap_i64])
  first
    | grind (splits := 60) [gd_some]
    | ((repeat' (first | (have or_ : Or _ _ := h; clear or_; rcases h with h | h) | (have or_ : Exists _ := h; clear or_; obtain ⟨_, h⟩ := h) | (have or_ : And _ _ := h; clear or_; obtain ⟨hq_, h⟩ := h))) <;> (try simp only [Option.some.injEq, Prod.mk.injEq, reduceCtorEq] at h) <;> (try subst_vars) <;> first | (simp_all [gd_some] <;> (try omega) <;> done) | grind (splits := 60) [gd_some])
    | (intros; subst_vars; simp_all [gd_some]; done)
noncomputable def civil_Days.con : Con
  | [.int .i64 a0, .int .i64 a1, .int .i64 a2] => some ((civil_Days.f a0 a1 a2).isSome, .tup [.int .i64 (gd (civil_Days.f a0 a1 a2)).1, .int .i64 (gd (civil_Days.f a0 a1 a2)).2])
  | _ => none
set_option maxRecDepth 100000 in
theorem civil_Days.cok : COk Tryz.prog 92 (civil_Days.con) := by
  intro args p v hc hp w A hA
  unfold civil_Days.con at hc
  split at hc
  · rename_i a0 a1 a2
    simp only [Option.some.injEq, Prod.mk.injEq] at hc
    obtain ⟨rfl, rfl⟩ := hc
    rcases hf : civil_Days.f a0 a1 a2 with _ | ⟨r1, r2⟩
    · rw [hf] at hp; cases hp
    obtain rfl : A = [.int .i64 a0, .int .i64 a1, .int .i64 a2] := by simpa [rl_cons, rl_nil, rv_int, rv_bool, rv_str, rv_agg, rv_fn] using hA
    exact gives_of_calls (fn := Tryz.f92) Tryz.func92 (by kernel_rfl) (by kernel_rfl) (civil_Days.calls _ _ _ _ _ w hf) (fun _ => by simp [gd_some, rl_cons, rl_nil, rv_int, rv_bool, rv_str, rv_agg, rv_tup]) (fun _ h => h)
  · cases hc
def day_Make.f (a0 : Int) (a1 : Int) (a2 : Int) : Option (Int × Int × Int) := (civil_Days.f a0 a1 a2).bind fun bt198 => ((day_finite.f bt198.1 bt198.2).bind fun bt200 => (some (bt200.1, bt200.2.1, bt200.2.2)))
set_option maxRecDepth 100000 in
theorem day_Make.vc (a0 : Int) (a1 : Int) (a2 : Int) (K : AV → Prop) : afv PA Tryz.prog (tab [(91, day_finite.con), (92, civil_Days.con)]) noLoops 2 39 [.int .i64 a0, .int .i64 a1, .int .i64 a2] K = (brc (Option.isSome (civil_Days.f a0 a1 a2)) (∀ (m0 : Int), m0 = Prod.fst (gd (civil_Days.f a0 a1 a2)) → ∀ (m1 : Int), m1 = Prod.snd (gd (civil_Days.f a0 a1 a2)) → brc (Option.isSome (day_finite.f m0 m1)) (∀ (m2 : Int), m2 = Prod.fst (gd (day_finite.f m0 m1)) → ∀ (m3 : Int), m3 = Prod.fst (Prod.snd (gd (day_finite.f m0 m1))) → ∀ (m4 : Int), m4 = Prod.snd (Prod.snd (gd (day_finite.f m0 m1))) → K (AV.tup [AV.agg [AV.int IntKind.i64 m2, AV.int IntKind.i64 m3], AV.int IntKind.i64 m4])) False) False) := by kernel_rfl
set_option maxHeartbeats 1000000 in
set_option maxRecDepth 100000 in
theorem day_Make.calls (a0 : Int) (a1 : Int) (a2 : Int) (r1 : Int) (r2 : Int) (r3 : Int) (w : World) (h : day_Make.f a0 a1 a2 = some (r1, r2, r3)) :
    Calls Tryz.prog 39 #[.int .i64 a0, .int .i64 a1, .int .i64 a2] w fun e w' => e = .returned (.tuple #[.agg #[.int .i64 r1, .int .i64 r2], .int .i64 r3]) ∧ Below w.heap.size w w' := by
  refine calls_of_vc (A := [.int .i64 a0, .int .i64 a1, .int .i64 a2]) (v := .tup [.agg [.int .i64 r1, .int .i64 r2], .int .i64 r3]) (tab_cons (day_finite.cok) (tab_cons (civil_Days.cok) (tab_nil))) ((day_Make.vc a0 a1 a2 _).mpr ?_) (by simp [rl_cons, rl_nil, rv_int, rv_bool, rv_str, rv_agg, rv_fn]) (fun ρ V' hV => by simpa [rl_cons, rl_nil, rv_int, rv_bool, rv_str, rv_agg, rv_tup] using hV)
  unfold day_Make.f at h
  (try simp only [bne, Option.bind_eq_some_iff, ite_some_iff] at h)
  (try simp only [bne, brc_iff, wrap_i64])
  first
    | grind (splits := 60) [gd_some]
    | ((repeat' (first | (have or_ : Or _ _ := h; clear or_; rcases h with h | h) | (have or_ : Exists _ := h; clear or_; obtain ⟨_, h⟩ := h) | (have or_ : And _ _ := h; clear or_; obtain ⟨hq_, h⟩ := h))) <;> (try simp only [Option.some.injEq, Prod.mk.injEq, reduceCtorEq] at h) <;> (try subst_vars) <;> first | (simp_all [gd_some] <;> (try omega) <;> done) | grind (splits := 60) [gd_some])
    | (intros; subst_vars; simp_all [gd_some]; done)
def num_Add.f (a0 : Int) (a1 : Int) : Option (Int × Int) := if ((decide ((wrap64 (a0 + a1)) > a0)) != (decide (a1 > 0))) = true then (some (0, 10)) else (some (wrap64 (a0 + a1), 0))
set_option maxHeartbeats 8000000 in
set_option maxRecDepth 100000 in
theorem num_Add.calls (a0 : Int) (a1 : Int) (r1 : Int) (r2 : Int) (w : World) (h : num_Add.f a0 a1 = some (r1, r2)) :
    Calls Tryz.prog 56 #[.int .i64 a0, .int .i64 a1] w fun e w' => e = .returned (.tuple #[.int .i64 r1, .int .i64 r2]) ∧ Drawn0 w w' := by
  have H : (if ((decide ((wrap64 (a0 + a1)) > a0)) != (decide (a1 > 0))) = true then (some (0, 10)) else (some (wrap64 (a0 + a1), 0))) = some (r1, r2) := h
  clear h
  by_cases c3 : ((decide ((wrap64 (a0 + a1)) > a0)) != (decide (a1 > 0))) = true
  · rw [if_pos c3] at H
    have c3b0 : ((decide ((wrap64 (a0 + a1)) > a0)) != (decide (a1 > 0))) = true := c3
    (try (have c3b1 : decide ((decide ((wrap64 (a0 + a1)) > a0)) = (decide (a1 > 0))) = false := by simpa using c3))
    (try (have c3b2 : ((decide ((wrap64 (a0 + a1)) > a0)) == (decide (a1 > 0))) = false := by simpa using c3))
    (try (have c3b3 : ¬ ((decide ((wrap64 (a0 + a1)) > a0)) = (decide (a1 > 0))) := by simpa using c3))
    clear c3
    simp only [Option.some.injEq, Prod.mk.injEq] at H
    obtain ⟨rfl, rfl⟩ := H
    go_enter Tryz.func56, Tryz.ntmps56
    go_wp2
    go_ret2
    exact ⟨by first | rfl | (simp; done) | (simp [*]; done), by repeat (first | exact Drawn0.refl _ | apply Drawn0.step)⟩
  · rw [if_neg c3] at H
    have c3b0 : ((decide ((wrap64 (a0 + a1)) > a0)) != (decide (a1 > 0))) = false := by simpa using c3
    (try (have c3b1 : decide ((decide ((wrap64 (a0 + a1)) > a0)) = (decide (a1 > 0))) = true := by simpa using c3))
    (try (have c3b2 : ((decide ((wrap64 (a0 + a1)) > a0)) == (decide (a1 > 0))) = true := by simpa using c3))
    clear c3
    simp only [Option.some.injEq, Prod.mk.injEq] at H
    obtain ⟨rfl, rfl⟩ := H
    go_enter Tryz.func56, Tryz.ntmps56
    go_wp2
    go_ret2
    exact ⟨by first | rfl | (simp; done) | (simp [*]; done), by repeat (first | exact Drawn0.refl _ | apply Drawn0.step)⟩
noncomputable def num_Add.con : Con
  | [.int .i64 a0, .int .i64 a1] => some ((num_Add.f a0 a1).isSome, .tup [.int .i64 (gd (num_Add.f a0 a1)).1, .int .i64 (gd (num_Add.f a0 a1)).2])
  | _ => none
set_option maxRecDepth 100000 in
theorem num_Add.cok : COk Tryz.prog 56 (num_Add.con) := by
  intro args p v hc hp w A hA
  unfold num_Add.con at hc
  split at hc
  · rename_i a0 a1
    simp only [Option.some.injEq, Prod.mk.injEq] at hc
    obtain ⟨rfl, rfl⟩ := hc
    rcases hf : num_Add.f a0 a1 with _ | ⟨r1, r2⟩
    · rw [hf] at hp; cases hp
    obtain rfl : A = [.int .i64 a0, .int .i64 a1] := by simpa [rl_cons, rl_nil, rv_int, rv_bool, rv_str, rv_agg, rv_fn] using hA
    exact gives_of_calls (fn := Tryz.f56) Tryz.func56 (by kernel_rfl) (by kernel_rfl) (num_Add.calls _ _ _ _ w hf) (fun _ => by simp [gd_some, rl_cons, rl_nil, rv_int, rv_bool, rv_str, rv_agg, rv_tup]) (fun _ h => h.below)
  · cases hc
def num_Mul.f (k : Nat) (a0 : Int) (a1 : Int) : Option (Int × Int) := (num_product.f a0 a1).bind fun bt203 => ((num_signed.f k ((decide (a0 < 0)) != (decide (a1 < 0))) bt203.1 bt203.2).bind fun bt205 => (some (bt205.1, bt205.2)))
theorem num_Mul.mono : ∀ a0 a1 k, LeO (num_Mul.f k a0 a1) (num_Mul.f (k + 1) a0 a1) := by
  intro a0 a1 k
  unfold num_Mul.f
  repeat' first
      | (with_reducible exact num_signed.mono _ _ _ _)
      | (with_reducible exact LeO.refl _)
      | (with_reducible exact LeO.none _)
      | (with_reducible refine LeO.ite ?_ ?_)
      | (with_reducible refine LeO.bind ?_ (fun _ => ?_))
      | exact num_signed.mono _ _ _ _
      | exact LeO.none _
      | refine LeO.ite ?_ ?_
      | refine LeO.bind ?_ (fun _ => ?_)
set_option maxRecDepth 100000 in
theorem num_Mul.vc (k : Nat) (a0 : Int) (a1 : Int) (K : AV → Prop) : afv PA Tryz.prog (tab [(133, num_signed.con k), (134, num_product.con)]) noLoops 2 97 [.int .i64 a0, .int .i64 a1] K = (brc (Option.isSome (num_product.f a0 a1)) (∀ (m0 : Int), m0 = Prod.fst (gd (num_product.f a0 a1)) → ∀ (m1 : Int), m1 = Prod.snd (gd (num_product.f a0 a1)) → brc (Option.isSome (num_signed.f k (!decide (a0 < 0) == decide (a1 < 0)) m0 m1)) (∀ (m2 : Int), m2 = Prod.fst (gd (num_signed.f k (!decide (a0 < 0) == decide (a1 < 0)) m0 m1)) → ∀ (m3 : Int), m3 = Prod.snd (gd (num_signed.f k (!decide (a0 < 0) == decide (a1 < 0)) m0 m1)) → K (AV.tup [AV.int IntKind.i64 m2, AV.int IntKind.i64 m3])) False) False) := by kernel_rfl
set_option maxHeartbeats 1000000 in
set_option maxRecDepth 100000 in
theorem num_Mul.calls (k : Nat) (a0 : Int) (a1 : Int) (r1 : Int) (r2 : Int) (w : World) (h : num_Mul.f k a0 a1 = some (r1, r2)) :
    Calls Tryz.prog 97 #[.int .i64 a0, .int .i64 a1] w fun e w' => e = .returned (.tuple #[.int .i64 r1, .int .i64 r2]) ∧ Below w.heap.size w w' := by
  refine calls_of_vc (A := [.int .i64 a0, .int .i64 a1]) (v := .tup [.int .i64 r1, .int .i64 r2]) (tab_cons (num_signed.cok k) (tab_cons (num_product.cok) (tab_nil))) ((num_Mul.vc k a0 a1 _).mpr ?_) (by simp [rl_cons, rl_nil, rv_int, rv_bool, rv_str, rv_agg, rv_fn]) (fun ρ V' hV => by simpa [rl_cons, rl_nil, rv_int, rv_bool, rv_str, rv_agg, rv_tup] using hV)
  unfold num_Mul.f at h
  (try simp only [bne, Option.bind_eq_some_iff, ite_some_iff] at h)
  (try simp only [bne, brc_iff, wrap_i64])
  first
    | grind (splits := 60) [gd_some]
    | ((repeat' (first | (have or_ : Or _ _ := h; clear or_; rcases h with h | h) | (have or_ : Exists _ := h; clear or_; obtain ⟨_, h⟩ := h) | (have or_ : And _ _ := h; clear or_; obtain ⟨hq_, h⟩ := h))) <;> (try simp only [Option.some.injEq, Prod.mk.injEq, reduceCtorEq] at h) <;> (try subst_vars) <;> first | (simp_all [gd_some] <;> (try omega) <;> rcases hb0 : decide (a0 < 0) with _ | _ <;> rcases hb1 : decide (a1 < 0) with _ | _ <;> simp_all [gd_some] <;> done) | grind (splits := 60) [gd_some])
    | (intros; subst_vars; simp_all [gd_some]; done)
noncomputable def num_Mul.con (k : Nat) : Con
  | [.int .i64 a0, .int .i64 a1] => some ((num_Mul.f k a0 a1).isSome, .tup [.int .i64 (gd (num_Mul.f k a0 a1)).1, .int .i64 (gd (num_Mul.f k a0 a1)).2])
  | _ => none
set_option maxRecDepth 100000 in
theorem num_Mul.cok (k : Nat) : COk Tryz.prog 97 (num_Mul.con k) := by
  intro args p v hc hp w A hA
  unfold num_Mul.con at hc
  split at hc
  · rename_i a0 a1
    simp only [Option.some.injEq, Prod.mk.injEq] at hc
    obtain ⟨rfl, rfl⟩ := hc
    rcases hf : num_Mul.f k a0 a1 with _ | ⟨r1, r2⟩
    · rw [hf] at hp; cases hp
    obtain rfl : A = [.int .i64 a0, .int .i64 a1] := by simpa [rl_cons, rl_nil, rv_int, rv_bool, rv_str, rv_agg, rv_fn] using hA
    exact gives_of_calls (fn := Tryz.f97) Tryz.func97 (by kernel_rfl) (by kernel_rfl) (num_Mul.calls _ _ _ _ _ w hf) (fun _ => by simp [gd_some, rl_cons, rl_nil, rv_int, rv_bool, rv_str, rv_agg, rv_tup]) (fun _ h => h)
  · cases hc
theorem num_Mul.up {k : Nat} {a0 : Int} {a1 : Int} {r : Int × Int} (h : num_Mul.f k a0 a1 = some r) : num_Mul.f (k + 1) a0 a1 = some r := num_Mul.mono a0 a1 k _ h
theorem num_Mul.le {a0 : Int} {a1 : Int} {r : Int × Int} {k n : Nat} (h : num_Mul.f k a0 a1 = some r) (hk : k ≤ n) : num_Mul.f n a0 a1 = some r := by
  induction hk with
  | refl => exact h
  | step _ ih => exact num_Mul.up ih
end Go.Proofs.YthkmckmfgglafaaGreat.P
namespace Go.Proofs.YthkmckmfgglafaaGreat.P
open Go.RowKit Go.Proofs.YthkmckmfgglafaaGreatW.PrintWords Go.Proofs.YthkmckmfgglafaaGreatW.PrintLast Go.Proofs.YthkmckmfgglafaaGreatW.PrintMore
open Go.Proofs.YthkmckmfgglafaaGreat.A
attribute [local go_sem] max2_int min2_int max_two min_two max_three min_three max_four min_four   -- for this text's walks alone
set_option linter.unusedVariables false
set_option linter.unusedSimpArgs false
def day_Stamp.j0 : Nat → Int → Bool → Int → Int → Option (Int × Int × Int)
  | 0, _, _, _, _ => none
  | k + 1, x1, x19, x208000, x208001 => if x19 = true then (some (0, 0, 1)) else (if x208000 = 0 then ((num_Mul.f k x208001 86400000000).bind fun bt210 => (if bt210.2 = 0 then ((num_Add.f bt210.1 x1).bind fun bt212 => (if bt212.2 = 0 then ((day_RightStamp.f k 0 bt212.1).bind fun t215 => (if t215 = true then (some (0, bt212.1, 0)) else (some (0, 0, 10)))) else (some (0, 0, 10)))) else (some (0, 0, 10)))) else (some (x208000, 0, 0)))
def day_Stamp.f (k : Nat) (a0_0 : Int) (a0_1 : Int) (a1 : Int) : Option (Int × Int × Int) := (day_Right.f a0_0 a0_1).bind fun t209 => (if t209 = true then (if a1 < 0 then (day_Stamp.j0 k a1 true a0_0 a0_1) else (day_Stamp.j0 k a1 (decide (a1 > 86400000000)) a0_0 a0_1)) else (day_Stamp.j0 k a1 true a0_0 a0_1))
theorem day_Stamp.mono_l : ∀ k, (∀ y0 y1 y2 y3, LeO (day_Stamp.j0 k y0 y1 y2 y3) (day_Stamp.j0 (k + 1) y0 y1 y2 y3))
  | 0 => fun _ _ _ _ r h => by simp [day_Stamp.j0] at h
  | k + 1 => by
    have ih0 := day_Stamp.mono_l k
    · intro y0 y1 y2 y3
      unfold day_Stamp.j0
      repeat' first
      | (with_reducible exact ih0 _ _ _ _)
      | (with_reducible exact day_RightStamp.mono _ _ _)
      | (with_reducible exact num_Mul.mono _ _ _)
      | (with_reducible exact LeO.refl _)
      | (with_reducible exact LeO.none _)
      | (with_reducible refine LeO.ite ?_ ?_)
      | (with_reducible refine LeO.bind ?_ (fun _ => ?_))
      | exact ih0 _ _ _ _
      | exact day_RightStamp.mono _ _ _
      | exact num_Mul.mono _ _ _
      | exact LeO.none _
      | refine LeO.ite ?_ ?_
      | refine LeO.bind ?_ (fun _ => ?_)
theorem day_Stamp.mono : ∀ a0 a1 a2 k, LeO (day_Stamp.f k a0 a1 a2) (day_Stamp.f (k + 1) a0 a1 a2) := by
  intro a0 a1 a2 k
  have ih0 := day_Stamp.mono_l k
  unfold day_Stamp.f
  repeat' first
      | (with_reducible exact ih0 _ _ _ _)
      | (with_reducible exact day_RightStamp.mono _ _ _)
      | (with_reducible exact num_Mul.mono _ _ _)
      | (with_reducible exact LeO.refl _)
      | (with_reducible exact LeO.none _)
      | (with_reducible refine LeO.ite ?_ ?_)
      | (with_reducible refine LeO.bind ?_ (fun _ => ?_))
      | exact ih0 _ _ _ _
      | exact day_RightStamp.mono _ _ _
      | exact num_Mul.mono _ _ _
      | exact LeO.none _
      | refine LeO.ite ?_ ?_
      | refine LeO.bind ?_ (fun _ => ?_)
set_option maxRecDepth 100000 in
theorem day_Stamp.vc (k : Nat) (a0_0 : Int) (a0_1 : Int) (a1 : Int) (K : AV → Prop) : afv PA Tryz.prog (tab [(44, day_RightStamp.con k), (56, num_Add.con), (89, day_Right.con), (97, num_Mul.con k)]) noLoops 2 93 [.agg [.int .i64 a0_0, .int .i64 a0_1], .int .i64 a1] K = (brc (Option.isSome (day_Right.f a0_0 a0_1)) (∀ (m0 : Bool), m0 = gd (day_Right.f a0_0 a0_1) → brc (!m0) (K (AV.tup [AV.agg [AV.int IntKind.i64 0, AV.int IntKind.i64 0], AV.int IntKind.i64 1])) (brc (decide (a1 < 0)) (K (AV.tup [AV.agg [AV.int IntKind.i64 0, AV.int IntKind.i64 0], AV.int IntKind.i64 1])) (brc (decide (a1 > 86400000000)) (K (AV.tup [AV.agg [AV.int IntKind.i64 0, AV.int IntKind.i64 0], AV.int IntKind.i64 1])) (brc (a0_0 != 0) (K (AV.tup [AV.agg [AV.int IntKind.i64 a0_0, AV.int IntKind.i64 0], AV.int IntKind.i64 0])) (brc (Option.isSome (num_Mul.f k a0_1 86400000000)) (∀ (m1 : Int), m1 = Prod.fst (gd (num_Mul.f k a0_1 86400000000)) → ∀ (m2 : Int), m2 = Prod.snd (gd (num_Mul.f k a0_1 86400000000)) → brc (m2 == 0) (brc (Option.isSome (num_Add.f m1 a1)) (∀ (m3 : Int), m3 = Prod.fst (gd (num_Add.f m1 a1)) → ∀ (m4 : Int), m4 = Prod.snd (gd (num_Add.f m1 a1)) → brc (m4 != 0) (K (AV.tup [AV.agg [AV.int IntKind.i64 0, AV.int IntKind.i64 0], AV.int IntKind.i64 10])) (brc (Option.isSome (day_RightStamp.f k 0 m3)) (∀ (m5 : Bool), m5 = gd (day_RightStamp.f k 0 m3) → brc (!m5) (K (AV.tup [AV.agg [AV.int IntKind.i64 0, AV.int IntKind.i64 0], AV.int IntKind.i64 10])) (K (AV.tup [AV.agg [AV.int IntKind.i64 0, AV.int IntKind.i64 m3], AV.int IntKind.i64 0]))) False)) False) (brc (m2 != 0) (K (AV.tup [AV.agg [AV.int IntKind.i64 0, AV.int IntKind.i64 0], AV.int IntKind.i64 10])) (brc (Option.isSome (day_RightStamp.f k 0 m1)) (∀ (m3 : Bool), m3 = gd (day_RightStamp.f k 0 m1) → brc (!m3) (K (AV.tup [AV.agg [AV.int IntKind.i64 0, AV.int IntKind.i64 0], AV.int IntKind.i64 10])) (K (AV.tup [AV.agg [AV.int IntKind.i64 0, AV.int IntKind.i64 m1], AV.int IntKind.i64 0]))) False))) False))))) False) := by kernel_rfl
set_option maxHeartbeats 1000000 in
set_option maxRecDepth 100000 in
theorem day_Stamp.calls (k : Nat) (a0_0 : Int) (a0_1 : Int) (a1 : Int) (r1 : Int) (r2 : Int) (r3 : Int) (w : World) (h : day_Stamp.f k a0_0 a0_1 a1 = some (r1, r2, r3)) :
    Calls Tryz.prog 93 #[.agg #[.int .i64 a0_0, .int .i64 a0_1], .int .i64 a1] w fun e w' => e = .returned (.tuple #[.agg #[.int .i64 r1, .int .i64 r2], .int .i64 r3]) ∧ Below w.heap.size w w' := by
  refine calls_of_vc (A := [.agg #[.int .i64 a0_0, .int .i64 a0_1], .int .i64 a1]) (v := .tup [.agg [.int .i64 r1, .int .i64 r2], .int .i64 r3]) (tab_cons (day_RightStamp.cok k) (tab_cons (num_Add.cok) (tab_cons (day_Right.cok) (tab_cons (num_Mul.cok k) (tab_nil))))) ((day_Stamp.vc k a0_0 a0_1 a1 _).mpr ?_) (by simp [rl_cons, rl_nil, rv_int, rv_bool, rv_str, rv_agg, rv_fn]) (fun ρ V' hV => by simpa [rl_cons, rl_nil, rv_int, rv_bool, rv_str, rv_agg, rv_tup] using hV)
  unfold day_Stamp.f at h
  cases k with
  | zero =>
    (try simp only [day_Stamp.j0] at h)
    (try simp only [bne, Option.bind_eq_some_iff, ite_some_iff] at h)
    (try simp only [bne, brc_iff, wrap_i64])
    first
      | grind (splits := 60) [gd_some]
      | ((repeat' (first | (have or_ : Or _ _ := h; clear or_; rcases h with h | h) | (have or_ : Exists _ := h; clear or_; obtain ⟨_, h⟩ := h) | (have or_ : And _ _ := h; clear or_; obtain ⟨hq_, h⟩ := h))) <;> (try simp only [Option.some.injEq, Prod.mk.injEq, reduceCtorEq] at h) <;> (try subst_vars) <;> first | (simp_all [gd_some] <;> (try omega) <;> rcases hb0 : decide (a1 < 0) with _ | _ <;> rcases hb1 : decide (a1 > 86400000000) with _ | _ <;> simp_all [gd_some] <;> done) | grind (splits := 60) [gd_some])
      | (intros; subst_vars; simp_all [gd_some]; done)
  | succ k =>
    (try simp only [day_Stamp.j0] at h)
    (try simp only [bne, Option.bind_eq_some_iff, ite_some_iff] at h)
    (try simp only [bne, brc_iff, wrap_i64])
    first
      | grind (splits := 60) [gd_some, day_RightStamp.up, num_Mul.up]
      | ((repeat' (first | (have or_ : Or _ _ := h; clear or_; rcases h with h | h) | (have or_ : Exists _ := h; clear or_; obtain ⟨_, h⟩ := h) | (have or_ : And _ _ := h; clear or_; obtain ⟨hq_, h⟩ := h; (try first | replace hq_ := day_RightStamp.le (n := k + 1) hq_ (by omega) | replace hq_ := num_Mul.le (n := k + 1) hq_ (by omega))))) <;> (try simp only [Option.some.injEq, Prod.mk.injEq, reduceCtorEq] at h) <;> (try subst_vars) <;> first | (simp_all [gd_some] <;> (try omega) <;> rcases hb0 : decide (a1 < 0) with _ | _ <;> rcases hb1 : decide (a1 > 86400000000) with _ | _ <;> simp_all [gd_some] <;> done) | grind (splits := 60) [gd_some, day_RightStamp.up, num_Mul.up])
      | (intros; subst_vars; simp_all [gd_some]; done)
noncomputable def day_Stamp.con (k : Nat) : Con
  | [.agg [.int .i64 a0_0, .int .i64 a0_1], .int .i64 a1] => some ((day_Stamp.f k a0_0 a0_1 a1).isSome, .tup [.agg [.int .i64 (gd (day_Stamp.f k a0_0 a0_1 a1)).1, .int .i64 (gd (day_Stamp.f k a0_0 a0_1 a1)).2.1], .int .i64 (gd (day_Stamp.f k a0_0 a0_1 a1)).2.2])
  | _ => none
set_option maxRecDepth 100000 in
theorem day_Stamp.cok (k : Nat) : COk Tryz.prog 93 (day_Stamp.con k) := by
  intro args p v hc hp w A hA
  unfold day_Stamp.con at hc
  split at hc
  · rename_i a0_0 a0_1 a1
    simp only [Option.some.injEq, Prod.mk.injEq] at hc
    obtain ⟨rfl, rfl⟩ := hc
    rcases hf : day_Stamp.f k a0_0 a0_1 a1 with _ | ⟨r1, r2, r3⟩
    · rw [hf] at hp; cases hp
    obtain rfl : A = [.agg #[.int .i64 a0_0, .int .i64 a0_1], .int .i64 a1] := by simpa [rl_cons, rl_nil, rv_int, rv_bool, rv_str, rv_agg, rv_fn] using hA
    exact gives_of_calls (fn := Tryz.f93) Tryz.func93 (by kernel_rfl) (by kernel_rfl) (day_Stamp.calls _ _ _ _ _ _ _ w hf) (fun _ => by simp [gd_some, rl_cons, rl_nil, rv_int, rv_bool, rv_str, rv_agg, rv_tup]) (fun _ h => h)
  · cases hc
end Go.Proofs.YthkmckmfgglafaaGreat.P
namespace Go.Proofs.YthkmckmfgglafaaGreat.P
open Go.RowKit Go.Proofs.YthkmckmfgglafaaGreatW.PrintWords Go.Proofs.YthkmckmfgglafaaGreatW.PrintLast Go.Proofs.YthkmckmfgglafaaGreatW.PrintMore
open Go.Proofs.YthkmckmfgglafaaGreat.A
attribute [local go_sem] max2_int min2_int max_two min_two max_three min_three max_four min_four   -- for this text's walks alone
set_option linter.unusedVariables false
set_option linter.unusedSimpArgs false
def day_Start.f (k : Nat) (a0_0 : Int) (a0_1 : Int) : Option (Int × Int × Int) := (day_Stamp.f k a0_0 a0_1 0).bind fun bt219 => (some (bt219.1, bt219.2.1, bt219.2.2))
theorem day_Start.mono : ∀ a0 a1 k, LeO (day_Start.f k a0 a1) (day_Start.f (k + 1) a0 a1) := by
  intro a0 a1 k
  unfold day_Start.f
  repeat' first
      | (with_reducible exact day_Stamp.mono _ _ _ _)
      | (with_reducible exact LeO.refl _)
      | (with_reducible exact LeO.none _)
      | (with_reducible refine LeO.ite ?_ ?_)
      | (with_reducible refine LeO.bind ?_ (fun _ => ?_))
      | exact day_Stamp.mono _ _ _ _
      | exact LeO.none _
      | refine LeO.ite ?_ ?_
      | refine LeO.bind ?_ (fun _ => ?_)
set_option maxRecDepth 100000 in
theorem day_Start.vc (k : Nat) (a0_0 : Int) (a0_1 : Int) (K : AV → Prop) : afv PA Tryz.prog (tab [(93, day_Stamp.con k)]) noLoops 2 40 [.agg [.int .i64 a0_0, .int .i64 a0_1]] K = (brc (Option.isSome (day_Stamp.f k a0_0 a0_1 0)) (∀ (m0 : Int), m0 = Prod.fst (gd (day_Stamp.f k a0_0 a0_1 0)) → ∀ (m1 : Int), m1 = Prod.fst (Prod.snd (gd (day_Stamp.f k a0_0 a0_1 0))) → ∀ (m2 : Int), m2 = Prod.snd (Prod.snd (gd (day_Stamp.f k a0_0 a0_1 0))) → K (AV.tup [AV.agg [AV.int IntKind.i64 m0, AV.int IntKind.i64 m1], AV.int IntKind.i64 m2])) False) := by kernel_rfl
set_option maxHeartbeats 1000000 in
set_option maxRecDepth 100000 in
theorem day_Start.calls (k : Nat) (a0_0 : Int) (a0_1 : Int) (r1 : Int) (r2 : Int) (r3 : Int) (w : World) (h : day_Start.f k a0_0 a0_1 = some (r1, r2, r3)) :
    Calls Tryz.prog 40 #[.agg #[.int .i64 a0_0, .int .i64 a0_1]] w fun e w' => e = .returned (.tuple #[.agg #[.int .i64 r1, .int .i64 r2], .int .i64 r3]) ∧ Below w.heap.size w w' := by
  refine calls_of_vc (A := [.agg #[.int .i64 a0_0, .int .i64 a0_1]]) (v := .tup [.agg [.int .i64 r1, .int .i64 r2], .int .i64 r3]) (tab_cons (day_Stamp.cok k) (tab_nil)) ((day_Start.vc k a0_0 a0_1 _).mpr ?_) (by simp [rl_cons, rl_nil, rv_int, rv_bool, rv_str, rv_agg, rv_fn]) (fun ρ V' hV => by simpa [rl_cons, rl_nil, rv_int, rv_bool, rv_str, rv_agg, rv_tup] using hV)
  unfold day_Start.f at h
  (try simp only [bne, Option.bind_eq_some_iff, ite_some_iff] at h)
  (try simp only [bne, brc_iff, wrap_i64])
  first
    | grind (splits := 60) [gd_some]
    | ((repeat' (first | (have or_ : Or _ _ := h; clear or_; rcases h with h | h) | (have or_ : Exists _ := h; clear or_; obtain ⟨_, h⟩ := h) | (have or_ : And _ _ := h; clear or_; obtain ⟨hq_, h⟩ := h))) <;> (try simp only [Option.some.injEq, Prod.mk.injEq, reduceCtorEq] at h) <;> (try subst_vars) <;> first | (simp_all [gd_some] <;> (try omega) <;> done) | grind (splits := 60) [gd_some])
    | (intros; subst_vars; simp_all [gd_some]; done)
end Go.Proofs.YthkmckmfgglafaaGreat.P
