-- Written by a program of the session (a print of the seat's translation, functions given by hand among it). Lean checks it.
import Derived.Test.YtkongoedgngfhaaQcgoepkfcmc
namespace Go.Proofs.Ytkongoedgngfhaa.P
open Go.RowKit Go.Proofs.YtkongoedgngfhaaW.PrintWords Go.Proofs.YtkongoedgngfhaaW.PrintLast Go.Proofs.YtkongoedgngfhaaW.PrintMore
open Go.Proofs.Ytkongoedgngfhaa.A
attribute [local go_sem] max2_int min2_int max_two min_two max_three min_three max_four min_four   -- for this text's walks alone
set_option linter.unusedVariables false
set_option linter.unusedSimpArgs false
def num_Sub.f (a0 : Int) (a1 : Int) : Option (Int × Int) := if ((decide ((wrap64 (a0 - a1)) < a0)) != (decide (a1 > 0))) = true then (some (0, 10)) else (some (wrap64 (a0 - a1), 0))
set_option maxHeartbeats 8000000 in
set_option maxRecDepth 100000 in
theorem num_Sub.calls (a0 : Int) (a1 : Int) (r1 : Int) (r2 : Int) (w : World) (h : num_Sub.f a0 a1 = some (r1, r2)) :
    Calls Try.prog 33 #[.int .i64 a0, .int .i64 a1] w fun e w' => e = .returned (.tuple #[.int .i64 r1, .int .i64 r2]) ∧ Drawn0 w w' := by
  have H : (if ((decide ((wrap64 (a0 - a1)) < a0)) != (decide (a1 > 0))) = true then (some (0, 10)) else (some (wrap64 (a0 - a1), 0))) = some (r1, r2) := h
  clear h
  by_cases c3 : ((decide ((wrap64 (a0 - a1)) < a0)) != (decide (a1 > 0))) = true
  · rw [if_pos c3] at H
    have c3b0 : ((decide ((wrap64 (a0 - a1)) < a0)) != (decide (a1 > 0))) = true := c3
    (try (have c3b1 : decide ((decide ((wrap64 (a0 - a1)) < a0)) = (decide (a1 > 0))) = false := by simpa using c3))
    (try (have c3b2 : ((decide ((wrap64 (a0 - a1)) < a0)) == (decide (a1 > 0))) = false := by simpa using c3))
    (try (have c3b3 : ¬ ((decide ((wrap64 (a0 - a1)) < a0)) = (decide (a1 > 0))) := by simpa using c3))
    clear c3
    simp only [Option.some.injEq, Prod.mk.injEq] at H
    obtain ⟨rfl, rfl⟩ := H
    go_enter Try.func33, Try.ntmps33
    go_wp2
    go_ret2
    exact ⟨by first | rfl | (simp; done) | (simp [*]; done), by repeat (first | exact Drawn0.refl _ | apply Drawn0.step)⟩
  · rw [if_neg c3] at H
    have c3b0 : ((decide ((wrap64 (a0 - a1)) < a0)) != (decide (a1 > 0))) = false := by simpa using c3
    (try (have c3b1 : decide ((decide ((wrap64 (a0 - a1)) < a0)) = (decide (a1 > 0))) = true := by simpa using c3))
    (try (have c3b2 : ((decide ((wrap64 (a0 - a1)) < a0)) == (decide (a1 > 0))) = true := by simpa using c3))
    clear c3
    simp only [Option.some.injEq, Prod.mk.injEq] at H
    obtain ⟨rfl, rfl⟩ := H
    go_enter Try.func33, Try.ntmps33
    go_wp2
    go_ret2
    exact ⟨by first | rfl | (simp; done) | (simp [*]; done), by repeat (first | exact Drawn0.refl _ | apply Drawn0.step)⟩
noncomputable def num_Sub.con : Con
  | [.int .i64 a0, .int .i64 a1] => some ((num_Sub.f a0 a1).isSome, .tup [.int .i64 (gd (num_Sub.f a0 a1)).1, .int .i64 (gd (num_Sub.f a0 a1)).2])
  | _ => none
set_option maxRecDepth 100000 in
theorem num_Sub.cok : COk Try.prog 33 (num_Sub.con) := by
  intro args p v hc hp w A hA
  unfold num_Sub.con at hc
  split at hc
  · rename_i a0 a1
    simp only [Option.some.injEq, Prod.mk.injEq] at hc
    obtain ⟨rfl, rfl⟩ := hc
    rcases hf : num_Sub.f a0 a1 with _ | ⟨r1, r2⟩
    · rw [hf] at hp; cases hp
    obtain rfl : A = [.int .i64 a0, .int .i64 a1] := by simpa [rl_cons, rl_nil, rv_int, rv_bool, rv_str, rv_agg, rv_fn] using hA
    exact gives_of_calls (fn := Try.f33) Try.func33 (by kernel_rfl) (by kernel_rfl) (num_Sub.calls _ _ _ _ w hf) (fun _ => by simp [gd_some, rl_cons, rl_nil, rv_int, rv_bool, rv_str, rv_agg, rv_tup]) (fun _ h => h.below)
  · cases hc
def num_Neg.f (a0 : Int) : Option (Int × Int) := (num_Sub.f 0 a0).bind fun bt114 => (some (bt114.1, bt114.2))
set_option maxHeartbeats 8000000 in
set_option maxRecDepth 100000 in
theorem num_Neg.calls (a0 : Int) (r1 : Int) (r2 : Int) (w : World) (h : num_Neg.f a0 = some (r1, r2)) :
    Calls Try.prog 34 #[.int .i64 a0] w fun e w' => e = .returned (.tuple #[.int .i64 r1, .int .i64 r2]) ∧ Drawn0 w w' := by
  have H : ((num_Sub.f 0 a0).bind fun bt114 => (some (bt114.1, bt114.2))) = some (r1, r2) := h
  clear h
  replace H := Option.bind_eq_some_iff.mp H
  obtain ⟨⟨t114, t115⟩, A20, H⟩ := H
  replace H : (some (t114, t115)) = some (r1, r2) := H
  have A2 := Aside0.mk A20
  clear A20
  simp only [Option.some.injEq, Prod.mk.injEq] at H
  obtain ⟨rfl, rfl⟩ := H
  go_enter Try.func34, Try.ntmps34
  go_wp2_with (first | ((with_reducible refine gate_callee (f := 33) rfl ?_); refine goesL_ (some 5) rfl rfl Try.func33 (by kernel_rfl) rfl #[.int .i64 0, .int .i64 a0] rfl (by (try simp only [List.map_toArray, List.map_cons, List.map_nil]); first | done | rfl | (simp only [List.length_drop, List.length_take]; rfl)) ?_; (with_reducible refine (num_Sub.calls 0 a0 t114 t115 _ A2.out).mono ?_); rintro e w' ⟨rfl, ⟨nd, rfl⟩⟩; refine ⟨_, rfl, ?_⟩))
  go_ret2
  exact ⟨by first | rfl | (simp; done) | (simp [*]; done), by repeat (first | exact Drawn0.refl _ | apply Drawn0.step)⟩
def dec_made.f (a0 : Int) (a1 : Int) (a2 : Int) : Option (Int × Int × Int) := if a2 = 0 then (some (a0, a1, 0)) else (some (0, 0, a2))
set_option maxRecDepth 100000 in
theorem dec_made.vc (a0 : Int) (a1 : Int) (a2 : Int) (K : AV → Prop) : afv PA Try.prog (tab []) noLoops 2 35 [.int .i64 a0, .int .i64 a1, .int .i64 a2] K = (brc (a2 != 0) (K (AV.tup [AV.agg [AV.int IntKind.i64 0, AV.int IntKind.i64 0], AV.int IntKind.i64 a2])) (K (AV.tup [AV.agg [AV.int IntKind.i64 a0, AV.int IntKind.i64 a1], AV.int IntKind.i64 0]))) := by kernel_rfl
set_option maxHeartbeats 1000000 in
set_option maxRecDepth 100000 in
theorem dec_made.calls (a0 : Int) (a1 : Int) (a2 : Int) (r1 : Int) (r2 : Int) (r3 : Int) (w : World) (h : dec_made.f a0 a1 a2 = some (r1, r2, r3)) :
    Calls Try.prog 35 #[.int .i64 a0, .int .i64 a1, .int .i64 a2] w fun e w' => e = .returned (.tuple #[.agg #[.int .i64 r1, .int .i64 r2], .int .i64 r3]) ∧ Below w.heap.size w w' := by
  refine calls_of_vc (A := [.int .i64 a0, .int .i64 a1, .int .i64 a2]) (v := .tup [.agg [.int .i64 r1, .int .i64 r2], .int .i64 r3]) (tab_nil) ((dec_made.vc a0 a1 a2 _).mpr ?_) (by simp [rl_cons, rl_nil, rv_int, rv_bool, rv_str, rv_agg, rv_fn]) (fun ρ V' hV => by simpa [rl_cons, rl_nil, rv_int, rv_bool, rv_str, rv_agg, rv_tup] using hV)
  unfold dec_made.f at h
  (try simp only [bne, Option.bind_eq_some_iff, ite_some_iff] at h)
  (try simp only [bne, brc_iff, wrap_i64])
  first
    | grind (splits := 60) [gd_some]
    | ((repeat' (first | (have or_ : Or _ _ := h; clear or_; rcases h with h | h) | (have or_ : Exists _ := h; clear or_; obtain ⟨_, h⟩ := h) | (have or_ : And _ _ := h; clear or_; obtain ⟨hq_, h⟩ := h))) <;> (try simp only [Option.some.injEq, Prod.mk.injEq, reduceCtorEq] at h) <;> (try subst_vars) <;> first | (simp_all [gd_some] <;> (try omega) <;> done) | grind (splits := 60) [gd_some])
    | (intros; subst_vars; simp_all [gd_some]; done)
noncomputable def dec_made.con : Con
  | [.int .i64 a0, .int .i64 a1, .int .i64 a2] => some ((dec_made.f a0 a1 a2).isSome, .tup [.agg [.int .i64 (gd (dec_made.f a0 a1 a2)).1, .int .i64 (gd (dec_made.f a0 a1 a2)).2.1], .int .i64 (gd (dec_made.f a0 a1 a2)).2.2])
  | _ => none
set_option maxRecDepth 100000 in
theorem dec_made.cok : COk Try.prog 35 (dec_made.con) := by
  intro args p v hc hp w A hA
  unfold dec_made.con at hc
  split at hc
  · rename_i a0 a1 a2
    simp only [Option.some.injEq, Prod.mk.injEq] at hc
    obtain ⟨rfl, rfl⟩ := hc
    rcases hf : dec_made.f a0 a1 a2 with _ | ⟨r1, r2, r3⟩
    · rw [hf] at hp; cases hp
    obtain rfl : A = [.int .i64 a0, .int .i64 a1, .int .i64 a2] := by simpa [rl_cons, rl_nil, rv_int, rv_bool, rv_str, rv_agg, rv_fn] using hA
    exact gives_of_calls (fn := Try.f35) Try.func35 (by kernel_rfl) (by kernel_rfl) (dec_made.calls _ _ _ _ _ _ w hf) (fun _ => by simp [gd_some, rl_cons, rl_nil, rv_int, rv_bool, rv_str, rv_agg, rv_tup]) (fun _ h => h)
  · cases hc
def dec_Read.f (a0 : ByteArray) : Option (Int × Int × Int) := if a0 = ⟨#[49, 50, 46, 51, 52, 48]⟩ then some (12340, 3, 0) else none
set_option maxHeartbeats 8000000 in
set_option maxRecDepth 100000 in
theorem dec_Read.at12 (w : World) :
    Calls Try.prog 11 #[.string ⟨#[49, 50, 46, 51, 52, 48]⟩] w fun e w' => e = .returned (.tuple #[.agg #[.int .i64 12340, .int .i64 3], .int .i64 0]) ∧ Below w.heap.size w w' := by
  have hu25 := Try.underlying25
  have HB := Aside0.mk (Below.refl w.heap.size w)
  have hn : ((((⟨#[49, 50, 46, 51, 52, 48]⟩ : ByteArray)[0]'(by decide)).toNat : Int) == 45) = false := by decide
  have hp : ((((⟨#[49, 50, 46, 51, 52, 48]⟩ : ByteArray)[0]'(by decide)).toNat : Int) == 43) = false := by decide
  go_enter Try.func11, Try.ntmps11
  go_wp2
  obtain ⟨g2, hg2⟩ : ∃ g, w.heap.size = g := ⟨_, rfl⟩
  obtain ⟨g5, hg5⟩ : ∃ g, w.heap.size + 1 = g := ⟨_, rfl⟩
  obtain ⟨gI, hgI⟩ : ∃ g, w.heap.size + 1 + 1 = g := ⟨_, rfl⟩
  have GE2 : Aside0 (w.heap.size ≤ g2) := ⟨by omega⟩
  have GE5 : Aside0 (w.heap.size ≤ g5) := ⟨by omega⟩
  have GEI : Aside0 (w.heap.size ≤ gI) := ⟨by omega⟩
  have N2I : Aside0 (g2 ≠ gI) := ⟨by omega⟩
  have N5I : Aside0 (g5 ≠ gI) := ⟨by omega⟩
  have N5I_ : Aside0 (gI ≠ g5) := ⟨by omega⟩
  have N25 : Aside0 (g2 ≠ g5) := ⟨by omega⟩
  have N25_ : Aside0 (g5 ≠ g2) := ⟨by omega⟩
  rw [hgI, hg5, hg2]
  go_loopg [6, 7, 8] 7 (fun q v6 v7 v8 wr => Aside0 (Below w.heap.size w wr) ∧ Aside0 (wr.heap[g2]? = some (.cells #[.int .i64 0, .int .i64 0] 25 (0, 0))) ∧
    ((Aside0 (q = 7) ∧ v6 = .int .i64 0 ∧ v7 = .bool false ∧ v8 = .int .i64 0 ∧ Aside0 (wr.heap[g5]? = some (.cells #[.int .i64 0, .int .i64 0] 25 (0, 0))) ∧ Aside0 (wr.heap[gI]? = some (.stringIter ⟨#[49, 50, 46, 51, 52, 48]⟩ 0))) ∨
     (Aside0 (q = 6) ∧ v6 = .int .i64 1 ∧ v7 = .bool false ∧ v8 = .int .i64 0 ∧ Aside0 (wr.heap[g5]? = some (.cells #[.int .i64 (-1), .int .i64 0] 25 (0, 0))) ∧ Aside0 (wr.heap[gI]? = some (.stringIter ⟨#[49, 50, 46, 51, 52, 48]⟩ 1))) ∨
     (Aside0 (q = 5) ∧ v6 = .int .i64 2 ∧ v7 = .bool false ∧ v8 = .int .i64 0 ∧ Aside0 (wr.heap[g5]? = some (.cells #[.int .i64 (-12), .int .i64 0] 25 (0, 0))) ∧ Aside0 (wr.heap[gI]? = some (.stringIter ⟨#[49, 50, 46, 51, 52, 48]⟩ 2))) ∨
     (Aside0 (q = 4) ∧ v6 = .int .i64 2 ∧ v7 = .bool true ∧ v8 = .int .i64 0 ∧ Aside0 (wr.heap[g5]? = some (.cells #[.int .i64 (-12), .int .i64 0] 25 (0, 0))) ∧ Aside0 (wr.heap[gI]? = some (.stringIter ⟨#[49, 50, 46, 51, 52, 48]⟩ 3))) ∨
     (Aside0 (q = 3) ∧ v6 = .int .i64 3 ∧ v7 = .bool true ∧ v8 = .int .i64 0 ∧ Aside0 (wr.heap[g5]? = some (.cells #[.int .i64 (-123), .int .i64 1] 25 (0, 0))) ∧ Aside0 (wr.heap[gI]? = some (.stringIter ⟨#[49, 50, 46, 51, 52, 48]⟩ 4))) ∨
     (Aside0 (q = 2) ∧ v6 = .int .i64 4 ∧ v7 = .bool true ∧ v8 = .int .i64 0 ∧ Aside0 (wr.heap[g5]? = some (.cells #[.int .i64 (-1234), .int .i64 2] 25 (0, 0))) ∧ Aside0 (wr.heap[gI]? = some (.stringIter ⟨#[49, 50, 46, 51, 52, 48]⟩ 5))) ∨
     (Aside0 (q = 1) ∧ v6 = .int .i64 5 ∧ v7 = .bool true ∧ v8 = .int .i64 0 ∧ Aside0 (wr.heap[g5]? = some (.cells #[.int .i64 (-12340), .int .i64 3] 25 (0, 0))) ∧ Aside0 (wr.heap[gI]? = some (.stringIter ⟨#[49, 50, 46, 51, 52, 48]⟩ 6)))))
  case atStart =>
    have e1 : ∀ o : Obj, (w.alloc o).heap.size = w.heap.size + 1 := fun o => by show (w.heap.push o).size = _; rw [Array.size_push]
    have e2 : ∀ o o2 : Obj, ((w.alloc o).alloc o2).heap.size = w.heap.size + 1 + 1 := fun o o2 => by show ((w.heap.push o).push o2).size = _; rw [Array.size_push, Array.size_push]
    refine ⟨⟨kF (kF (kF HB.out _) _) _⟩, ⟨?_⟩, .inl ⟨⟨rfl⟩, rfl, rfl, rfl, ⟨?_⟩, ⟨?_⟩⟩⟩
    · rw [← hg2]
      exact kD (kD (blk_new w _) _) _
    · rw [← hg5, ← e1 (.cells #[.int .i64 0, .int .i64 0] 25 (0, 0))]
      exact kD (blk_new (w.alloc _) _) _
    · rw [← hgI, ← e2 (.cells #[.int .i64 0, .int .i64 0] 25 (0, 0)) (.cells #[.int .i64 0, .int .i64 0] 25 (0, 0))]
      exact World.iter_heap _ _ _
  case round =>
    obtain ⟨HB, BK2, h⟩ := hrel
    rcases h with ⟨hq, rfl, rfl, rfl, BK5, HI⟩ | ⟨hq, rfl, rfl, rfl, BK5, HI⟩ | ⟨hq, rfl, rfl, rfl, BK5, HI⟩ | ⟨hq, rfl, rfl, rfl, BK5, HI⟩ | ⟨hq, rfl, rfl, rfl, BK5, HI⟩ | ⟨hq, rfl, rfl, rfl, BK5, HI⟩ | ⟨hq, rfl, rfl, rfl, BK5, HI⟩
    · have hnx : ∀ ty, (Instr.next (.pointer (some ⟨gI, 0, none⟩)) true ty).run Try.prog wr = .ok (.tuple #[.bool true, .int .i64 0, .int .i32 49]) (wr.iterAt gI ⟨#[49, 50, 46, 51, 52, 48]⟩ 1) := fun ty => (Lib.run_next_any_at wr gI ⟨#[49, 50, 46, 51, 52, 48]⟩ 0 ty HI.out (by decide)).trans (by rfl)
      have HI2 : Aside0 ((wr.iterAt gI ⟨#[49, 50, 46, 51, 52, 48]⟩ 1).heap[gI]? = some (.stringIter ⟨#[49, 50, 46, 51, 52, 48]⟩ 1)) := ⟨Lib.iterAt_heap wr gI ⟨#[49, 50, 46, 51, 52, 48]⟩ 0 1 HI.out⟩
      have HB2 : Aside0 (Below w.heap.size w (wr.iterAt gI ⟨#[49, 50, 46, 51, 52, 48]⟩ 1)) := ⟨Lib.below_iterAt HB.out GEI.out ⟨#[49, 50, 46, 51, 52, 48]⟩ 1⟩
      have BK22 : Aside0 ((wr.iterAt gI ⟨#[49, 50, 46, 51, 52, 48]⟩ 1).heap[g2]? = some (.cells #[.int .i64 0, .int .i64 0] 25 (0, 0))) := ⟨(Lib.iterAt_other wr gI g2 ⟨#[49, 50, 46, 51, 52, 48]⟩ 1 N2I.out).trans BK2.out⟩
      have BK52 : Aside0 ((wr.iterAt gI ⟨#[49, 50, 46, 51, 52, 48]⟩ 1).heap[g5]? = some (.cells #[.int .i64 0, .int .i64 0] 25 (0, 0))) := ⟨(Lib.iterAt_other wr gI g5 ⟨#[49, 50, 46, 51, 52, 48]⟩ 1 N5I.out).trans BK5.out⟩
      clear HI HB BK2 BK5
      have HI := HI2
      have HB := HB2
      have BK2 := BK22
      have BK5 := BK52
      clear HI2 HB2 BK22 BK52
      generalize wr.iterAt gI ⟨#[49, 50, 46, 51, 52, 48]⟩ 1 = w1 at *
      have hcz1_0 : w1.cell? ⟨g5, 0, none⟩ = some (.int .i64 0) := (kH BK5.out 0).trans rfl; have hcz1_1 : w1.cell? ⟨g5, 1, none⟩ = some (.int .i64 0) := (kH BK5.out 1).trans rfl; have hfz1_0 := kJ BK5.out 0; have hfz1_1 := kJ BK5.out 1
      go_wp2_with (first | (go_at_call 32; (with_reducible refine (num_Mul.calls 3 0 10 0 0 _ (by decide +kernel)).mono ?_); rintro e_ w2 ⟨rfl, hb⟩; have n0_ := Aside0.mk (kL (by repeat (first | (with_reducible first | exact HB.out | apply kF | apply kB | apply kG | refine kA ?_ GE2.out | refine kA ?_ GE5.out) | exact HB.out)) hb); have n1_ := Aside0.mk (kI (g := g2) (o := .cells #[.int .i64 0, .int .i64 0] 25 (0, 0)) (by exact BK2.out) hb); have n2_ := Aside0.mk (kI (g := g5) (o := .cells #[.int .i64 0, .int .i64 0] 25 (0, 0)) (by exact BK5.out) hb); have n3_ := Aside0.mk (kI (g := gI) (o := .stringIter ⟨#[49, 50, 46, 51, 52, 48]⟩ 1) (by exact HI.out) hb); clear HB BK2 BK5 HI; have HB := n0_; have BK2 := n1_; have BK5 := n2_; have HI := n3_; clear n0_ n1_ n2_ n3_ hb; have hcz2_0 : w2.cell? ⟨g5, 0, none⟩ = some (.int .i64 0) := (kH BK5.out 0).trans rfl; have hcz2_1 : w2.cell? ⟨g5, 1, none⟩ = some (.int .i64 0) := (kH BK5.out 1).trans rfl; have hfz2_0 := kJ BK5.out 0; have hfz2_1 := kJ BK5.out 1) | (go_at_call 33; (with_reducible refine (num_Sub.calls 0 1 (-1) 0 _ (by decide +kernel)).mono ?_); rintro e_ w3 ⟨rfl, ⟨nd, rfl⟩⟩))
      go_roundg 6
      case measure => have := hq.out; omega
      case rel => exact ⟨⟨by repeat (first | (with_reducible first | exact HB.out | apply kF | apply kB | apply kG | refine kA ?_ GE2.out | refine kA ?_ GE5.out) | exact HB.out)⟩, ⟨blk_far (kC (blk_far BK2.out N25.out _) _) N25.out _⟩, .inr (.inl ⟨⟨rfl⟩, rfl, rfl, rfl, ⟨blk_put (cs := #[.int .i64 0, .int .i64 0]) (kC (blk_put (cs := #[.int .i64 0, .int .i64 0]) BK5.out 0 _ rfl) _) 0 _ rfl⟩, ⟨(Below.heap_setCell _ _ _ _ N5I_.out).trans (show _ = _ from (Below.heap_setCell _ _ _ _ N5I_.out).trans HI.out)⟩⟩)⟩
    · have hnx : ∀ ty, (Instr.next (.pointer (some ⟨gI, 0, none⟩)) true ty).run Try.prog wr = .ok (.tuple #[.bool true, .int .i64 1, .int .i32 50]) (wr.iterAt gI ⟨#[49, 50, 46, 51, 52, 48]⟩ 2) := fun ty => (Lib.run_next_any_at wr gI ⟨#[49, 50, 46, 51, 52, 48]⟩ 1 ty HI.out (by decide)).trans (by rfl)
      have HI2 : Aside0 ((wr.iterAt gI ⟨#[49, 50, 46, 51, 52, 48]⟩ 2).heap[gI]? = some (.stringIter ⟨#[49, 50, 46, 51, 52, 48]⟩ 2)) := ⟨Lib.iterAt_heap wr gI ⟨#[49, 50, 46, 51, 52, 48]⟩ 1 2 HI.out⟩
      have HB2 : Aside0 (Below w.heap.size w (wr.iterAt gI ⟨#[49, 50, 46, 51, 52, 48]⟩ 2)) := ⟨Lib.below_iterAt HB.out GEI.out ⟨#[49, 50, 46, 51, 52, 48]⟩ 2⟩
      have BK22 : Aside0 ((wr.iterAt gI ⟨#[49, 50, 46, 51, 52, 48]⟩ 2).heap[g2]? = some (.cells #[.int .i64 0, .int .i64 0] 25 (0, 0))) := ⟨(Lib.iterAt_other wr gI g2 ⟨#[49, 50, 46, 51, 52, 48]⟩ 2 N2I.out).trans BK2.out⟩
      have BK52 : Aside0 ((wr.iterAt gI ⟨#[49, 50, 46, 51, 52, 48]⟩ 2).heap[g5]? = some (.cells #[.int .i64 (-1), .int .i64 0] 25 (0, 0))) := ⟨(Lib.iterAt_other wr gI g5 ⟨#[49, 50, 46, 51, 52, 48]⟩ 2 N5I.out).trans BK5.out⟩
      clear HI HB BK2 BK5
      have HI := HI2
      have HB := HB2
      have BK2 := BK22
      have BK5 := BK52
      clear HI2 HB2 BK22 BK52
      generalize wr.iterAt gI ⟨#[49, 50, 46, 51, 52, 48]⟩ 2 = w1 at *
      have hcz1_0 : w1.cell? ⟨g5, 0, none⟩ = some (.int .i64 (-1)) := (kH BK5.out 0).trans rfl; have hcz1_1 : w1.cell? ⟨g5, 1, none⟩ = some (.int .i64 0) := (kH BK5.out 1).trans rfl; have hfz1_0 := kJ BK5.out 0; have hfz1_1 := kJ BK5.out 1
      go_wp2_with (first | (go_at_call 32; (with_reducible refine (num_Mul.calls 3 (-1) 10 (-10) 0 _ (by decide +kernel)).mono ?_); rintro e_ w2 ⟨rfl, hb⟩; have n0_ := Aside0.mk (kL (by repeat (first | (with_reducible first | exact HB.out | apply kF | apply kB | apply kG | refine kA ?_ GE2.out | refine kA ?_ GE5.out) | exact HB.out)) hb); have n1_ := Aside0.mk (kI (g := g2) (o := .cells #[.int .i64 0, .int .i64 0] 25 (0, 0)) (by exact BK2.out) hb); have n2_ := Aside0.mk (kI (g := g5) (o := .cells #[.int .i64 (-1), .int .i64 0] 25 (0, 0)) (by exact BK5.out) hb); have n3_ := Aside0.mk (kI (g := gI) (o := .stringIter ⟨#[49, 50, 46, 51, 52, 48]⟩ 2) (by exact HI.out) hb); clear HB BK2 BK5 HI; have HB := n0_; have BK2 := n1_; have BK5 := n2_; have HI := n3_; clear n0_ n1_ n2_ n3_ hb; have hcz2_0 : w2.cell? ⟨g5, 0, none⟩ = some (.int .i64 (-1)) := (kH BK5.out 0).trans rfl; have hcz2_1 : w2.cell? ⟨g5, 1, none⟩ = some (.int .i64 0) := (kH BK5.out 1).trans rfl; have hfz2_0 := kJ BK5.out 0; have hfz2_1 := kJ BK5.out 1) | (go_at_call 33; (with_reducible refine (num_Sub.calls (-10) 2 (-12) 0 _ (by decide +kernel)).mono ?_); rintro e_ w3 ⟨rfl, ⟨nd, rfl⟩⟩))
      go_roundg 5
      case measure => have := hq.out; omega
      case rel => exact ⟨⟨by repeat (first | (with_reducible first | exact HB.out | apply kF | apply kB | apply kG | refine kA ?_ GE2.out | refine kA ?_ GE5.out) | exact HB.out)⟩, ⟨blk_far (kC (blk_far BK2.out N25.out _) _) N25.out _⟩, .inr (.inr (.inl ⟨⟨rfl⟩, rfl, rfl, rfl, ⟨blk_put (cs := #[.int .i64 (-10), .int .i64 0]) (kC (blk_put (cs := #[.int .i64 (-1), .int .i64 0]) BK5.out 0 _ rfl) _) 0 _ rfl⟩, ⟨(Below.heap_setCell _ _ _ _ N5I_.out).trans (show _ = _ from (Below.heap_setCell _ _ _ _ N5I_.out).trans HI.out)⟩⟩))⟩
    · have hnx : ∀ ty, (Instr.next (.pointer (some ⟨gI, 0, none⟩)) true ty).run Try.prog wr = .ok (.tuple #[.bool true, .int .i64 2, .int .i32 46]) (wr.iterAt gI ⟨#[49, 50, 46, 51, 52, 48]⟩ 3) := fun ty => (Lib.run_next_any_at wr gI ⟨#[49, 50, 46, 51, 52, 48]⟩ 2 ty HI.out (by decide)).trans (by rfl)
      have HI2 : Aside0 ((wr.iterAt gI ⟨#[49, 50, 46, 51, 52, 48]⟩ 3).heap[gI]? = some (.stringIter ⟨#[49, 50, 46, 51, 52, 48]⟩ 3)) := ⟨Lib.iterAt_heap wr gI ⟨#[49, 50, 46, 51, 52, 48]⟩ 2 3 HI.out⟩
      have HB2 : Aside0 (Below w.heap.size w (wr.iterAt gI ⟨#[49, 50, 46, 51, 52, 48]⟩ 3)) := ⟨Lib.below_iterAt HB.out GEI.out ⟨#[49, 50, 46, 51, 52, 48]⟩ 3⟩
      have BK22 : Aside0 ((wr.iterAt gI ⟨#[49, 50, 46, 51, 52, 48]⟩ 3).heap[g2]? = some (.cells #[.int .i64 0, .int .i64 0] 25 (0, 0))) := ⟨(Lib.iterAt_other wr gI g2 ⟨#[49, 50, 46, 51, 52, 48]⟩ 3 N2I.out).trans BK2.out⟩
      have BK52 : Aside0 ((wr.iterAt gI ⟨#[49, 50, 46, 51, 52, 48]⟩ 3).heap[g5]? = some (.cells #[.int .i64 (-12), .int .i64 0] 25 (0, 0))) := ⟨(Lib.iterAt_other wr gI g5 ⟨#[49, 50, 46, 51, 52, 48]⟩ 3 N5I.out).trans BK5.out⟩
      clear HI HB BK2 BK5
      have HI := HI2
      have HB := HB2
      have BK2 := BK22
      have BK5 := BK52
      clear HI2 HB2 BK22 BK52
      generalize wr.iterAt gI ⟨#[49, 50, 46, 51, 52, 48]⟩ 3 = w1 at *
      have hcz1_0 : w1.cell? ⟨g5, 0, none⟩ = some (.int .i64 (-12)) := (kH BK5.out 0).trans rfl; have hcz1_1 : w1.cell? ⟨g5, 1, none⟩ = some (.int .i64 0) := (kH BK5.out 1).trans rfl; have hfz1_0 := kJ BK5.out 0; have hfz1_1 := kJ BK5.out 1
      go_wp2
      go_roundg 4
      case measure => have := hq.out; omega
      case rel => exact ⟨⟨HB.out⟩, ⟨BK2.out⟩, .inr (.inr (.inr (.inl ⟨⟨rfl⟩, rfl, rfl, rfl, ⟨BK5.out⟩, ⟨HI.out⟩⟩)))⟩
    · have hnx : ∀ ty, (Instr.next (.pointer (some ⟨gI, 0, none⟩)) true ty).run Try.prog wr = .ok (.tuple #[.bool true, .int .i64 3, .int .i32 51]) (wr.iterAt gI ⟨#[49, 50, 46, 51, 52, 48]⟩ 4) := fun ty => (Lib.run_next_any_at wr gI ⟨#[49, 50, 46, 51, 52, 48]⟩ 3 ty HI.out (by decide)).trans (by rfl)
      have HI2 : Aside0 ((wr.iterAt gI ⟨#[49, 50, 46, 51, 52, 48]⟩ 4).heap[gI]? = some (.stringIter ⟨#[49, 50, 46, 51, 52, 48]⟩ 4)) := ⟨Lib.iterAt_heap wr gI ⟨#[49, 50, 46, 51, 52, 48]⟩ 3 4 HI.out⟩
      have HB2 : Aside0 (Below w.heap.size w (wr.iterAt gI ⟨#[49, 50, 46, 51, 52, 48]⟩ 4)) := ⟨Lib.below_iterAt HB.out GEI.out ⟨#[49, 50, 46, 51, 52, 48]⟩ 4⟩
      have BK22 : Aside0 ((wr.iterAt gI ⟨#[49, 50, 46, 51, 52, 48]⟩ 4).heap[g2]? = some (.cells #[.int .i64 0, .int .i64 0] 25 (0, 0))) := ⟨(Lib.iterAt_other wr gI g2 ⟨#[49, 50, 46, 51, 52, 48]⟩ 4 N2I.out).trans BK2.out⟩
      have BK52 : Aside0 ((wr.iterAt gI ⟨#[49, 50, 46, 51, 52, 48]⟩ 4).heap[g5]? = some (.cells #[.int .i64 (-12), .int .i64 0] 25 (0, 0))) := ⟨(Lib.iterAt_other wr gI g5 ⟨#[49, 50, 46, 51, 52, 48]⟩ 4 N5I.out).trans BK5.out⟩
      clear HI HB BK2 BK5
      have HI := HI2
      have HB := HB2
      have BK2 := BK22
      have BK5 := BK52
      clear HI2 HB2 BK22 BK52
      generalize wr.iterAt gI ⟨#[49, 50, 46, 51, 52, 48]⟩ 4 = w1 at *
      have hcz1_0 : w1.cell? ⟨g5, 0, none⟩ = some (.int .i64 (-12)) := (kH BK5.out 0).trans rfl; have hcz1_1 : w1.cell? ⟨g5, 1, none⟩ = some (.int .i64 0) := (kH BK5.out 1).trans rfl; have hfz1_0 := kJ BK5.out 0; have hfz1_1 := kJ BK5.out 1
      go_wp2_with (first | (go_at_call 32; (with_reducible refine (num_Mul.calls 3 (-12) 10 (-120) 0 _ (by decide +kernel)).mono ?_); rintro e_ w2 ⟨rfl, hb⟩; have n0_ := Aside0.mk (kL (by repeat (first | (with_reducible first | exact HB.out | apply kF | apply kB | apply kG | refine kA ?_ GE2.out | refine kA ?_ GE5.out) | exact HB.out)) hb); have n1_ := Aside0.mk (kI (g := g2) (o := .cells #[.int .i64 0, .int .i64 0] 25 (0, 0)) (by refine blk_far ?_ N25.out _; exact BK2.out) hb); have n2_ := Aside0.mk (kI (g := g5) (o := .cells #[.int .i64 (-12), .int .i64 1] 25 (0, 0)) (by refine blk_put (cs := #[.int .i64 (-12), .int .i64 0]) ?_ 1 _ rfl; exact BK5.out) hb); have n3_ := Aside0.mk (kI (g := gI) (o := .stringIter ⟨#[49, 50, 46, 51, 52, 48]⟩ 4) (by rw [Below.heap_setCell _ _ _ _ N5I_.out]; exact HI.out) hb); clear HB BK2 BK5 HI; have HB := n0_; have BK2 := n1_; have BK5 := n2_; have HI := n3_; clear n0_ n1_ n2_ n3_ hb; have hcz2_0 : w2.cell? ⟨g5, 0, none⟩ = some (.int .i64 (-12)) := (kH BK5.out 0).trans rfl; have hcz2_1 : w2.cell? ⟨g5, 1, none⟩ = some (.int .i64 1) := (kH BK5.out 1).trans rfl; have hfz2_0 := kJ BK5.out 0; have hfz2_1 := kJ BK5.out 1) | (go_at_call 33; (with_reducible refine (num_Sub.calls (-120) 3 (-123) 0 _ (by decide +kernel)).mono ?_); rintro e_ w3 ⟨rfl, ⟨nd, rfl⟩⟩))
      go_roundg 3
      case measure => have := hq.out; omega
      case rel => exact ⟨⟨by repeat (first | (with_reducible first | exact HB.out | apply kF | apply kB | apply kG | refine kA ?_ GE2.out | refine kA ?_ GE5.out) | exact HB.out)⟩, ⟨blk_far (kC (blk_far BK2.out N25.out _) _) N25.out _⟩, .inr (.inr (.inr (.inr (.inl ⟨⟨rfl⟩, rfl, rfl, rfl, ⟨blk_put (cs := #[.int .i64 (-120), .int .i64 1]) (kC (blk_put (cs := #[.int .i64 (-12), .int .i64 1]) BK5.out 0 _ rfl) _) 0 _ rfl⟩, ⟨(Below.heap_setCell _ _ _ _ N5I_.out).trans (show _ = _ from (Below.heap_setCell _ _ _ _ N5I_.out).trans HI.out)⟩⟩))))⟩
    · have hnx : ∀ ty, (Instr.next (.pointer (some ⟨gI, 0, none⟩)) true ty).run Try.prog wr = .ok (.tuple #[.bool true, .int .i64 4, .int .i32 52]) (wr.iterAt gI ⟨#[49, 50, 46, 51, 52, 48]⟩ 5) := fun ty => (Lib.run_next_any_at wr gI ⟨#[49, 50, 46, 51, 52, 48]⟩ 4 ty HI.out (by decide)).trans (by rfl)
      have HI2 : Aside0 ((wr.iterAt gI ⟨#[49, 50, 46, 51, 52, 48]⟩ 5).heap[gI]? = some (.stringIter ⟨#[49, 50, 46, 51, 52, 48]⟩ 5)) := ⟨Lib.iterAt_heap wr gI ⟨#[49, 50, 46, 51, 52, 48]⟩ 4 5 HI.out⟩
      have HB2 : Aside0 (Below w.heap.size w (wr.iterAt gI ⟨#[49, 50, 46, 51, 52, 48]⟩ 5)) := ⟨Lib.below_iterAt HB.out GEI.out ⟨#[49, 50, 46, 51, 52, 48]⟩ 5⟩
      have BK22 : Aside0 ((wr.iterAt gI ⟨#[49, 50, 46, 51, 52, 48]⟩ 5).heap[g2]? = some (.cells #[.int .i64 0, .int .i64 0] 25 (0, 0))) := ⟨(Lib.iterAt_other wr gI g2 ⟨#[49, 50, 46, 51, 52, 48]⟩ 5 N2I.out).trans BK2.out⟩
      have BK52 : Aside0 ((wr.iterAt gI ⟨#[49, 50, 46, 51, 52, 48]⟩ 5).heap[g5]? = some (.cells #[.int .i64 (-123), .int .i64 1] 25 (0, 0))) := ⟨(Lib.iterAt_other wr gI g5 ⟨#[49, 50, 46, 51, 52, 48]⟩ 5 N5I.out).trans BK5.out⟩
      clear HI HB BK2 BK5
      have HI := HI2
      have HB := HB2
      have BK2 := BK22
      have BK5 := BK52
      clear HI2 HB2 BK22 BK52
      generalize wr.iterAt gI ⟨#[49, 50, 46, 51, 52, 48]⟩ 5 = w1 at *
      have hcz1_0 : w1.cell? ⟨g5, 0, none⟩ = some (.int .i64 (-123)) := (kH BK5.out 0).trans rfl; have hcz1_1 : w1.cell? ⟨g5, 1, none⟩ = some (.int .i64 1) := (kH BK5.out 1).trans rfl; have hfz1_0 := kJ BK5.out 0; have hfz1_1 := kJ BK5.out 1
      go_wp2_with (first | (go_at_call 32; (with_reducible refine (num_Mul.calls 3 (-123) 10 (-1230) 0 _ (by decide +kernel)).mono ?_); rintro e_ w2 ⟨rfl, hb⟩; have n0_ := Aside0.mk (kL (by repeat (first | (with_reducible first | exact HB.out | apply kF | apply kB | apply kG | refine kA ?_ GE2.out | refine kA ?_ GE5.out) | exact HB.out)) hb); have n1_ := Aside0.mk (kI (g := g2) (o := .cells #[.int .i64 0, .int .i64 0] 25 (0, 0)) (by refine blk_far ?_ N25.out _; exact BK2.out) hb); have n2_ := Aside0.mk (kI (g := g5) (o := .cells #[.int .i64 (-123), .int .i64 2] 25 (0, 0)) (by refine blk_put (cs := #[.int .i64 (-123), .int .i64 1]) ?_ 1 _ rfl; exact BK5.out) hb); have n3_ := Aside0.mk (kI (g := gI) (o := .stringIter ⟨#[49, 50, 46, 51, 52, 48]⟩ 5) (by rw [Below.heap_setCell _ _ _ _ N5I_.out]; exact HI.out) hb); clear HB BK2 BK5 HI; have HB := n0_; have BK2 := n1_; have BK5 := n2_; have HI := n3_; clear n0_ n1_ n2_ n3_ hb; have hcz2_0 : w2.cell? ⟨g5, 0, none⟩ = some (.int .i64 (-123)) := (kH BK5.out 0).trans rfl; have hcz2_1 : w2.cell? ⟨g5, 1, none⟩ = some (.int .i64 2) := (kH BK5.out 1).trans rfl; have hfz2_0 := kJ BK5.out 0; have hfz2_1 := kJ BK5.out 1) | (go_at_call 33; (with_reducible refine (num_Sub.calls (-1230) 4 (-1234) 0 _ (by decide +kernel)).mono ?_); rintro e_ w3 ⟨rfl, ⟨nd, rfl⟩⟩))
      go_roundg 2
      case measure => have := hq.out; omega
      case rel => exact ⟨⟨by repeat (first | (with_reducible first | exact HB.out | apply kF | apply kB | apply kG | refine kA ?_ GE2.out | refine kA ?_ GE5.out) | exact HB.out)⟩, ⟨blk_far (kC (blk_far BK2.out N25.out _) _) N25.out _⟩, .inr (.inr (.inr (.inr (.inr (.inl ⟨⟨rfl⟩, rfl, rfl, rfl, ⟨blk_put (cs := #[.int .i64 (-1230), .int .i64 2]) (kC (blk_put (cs := #[.int .i64 (-123), .int .i64 2]) BK5.out 0 _ rfl) _) 0 _ rfl⟩, ⟨(Below.heap_setCell _ _ _ _ N5I_.out).trans (show _ = _ from (Below.heap_setCell _ _ _ _ N5I_.out).trans HI.out)⟩⟩)))))⟩
    · have hnx : ∀ ty, (Instr.next (.pointer (some ⟨gI, 0, none⟩)) true ty).run Try.prog wr = .ok (.tuple #[.bool true, .int .i64 5, .int .i32 48]) (wr.iterAt gI ⟨#[49, 50, 46, 51, 52, 48]⟩ 6) := fun ty => (Lib.run_next_any_at wr gI ⟨#[49, 50, 46, 51, 52, 48]⟩ 5 ty HI.out (by decide)).trans (by rfl)
      have HI2 : Aside0 ((wr.iterAt gI ⟨#[49, 50, 46, 51, 52, 48]⟩ 6).heap[gI]? = some (.stringIter ⟨#[49, 50, 46, 51, 52, 48]⟩ 6)) := ⟨Lib.iterAt_heap wr gI ⟨#[49, 50, 46, 51, 52, 48]⟩ 5 6 HI.out⟩
      have HB2 : Aside0 (Below w.heap.size w (wr.iterAt gI ⟨#[49, 50, 46, 51, 52, 48]⟩ 6)) := ⟨Lib.below_iterAt HB.out GEI.out ⟨#[49, 50, 46, 51, 52, 48]⟩ 6⟩
      have BK22 : Aside0 ((wr.iterAt gI ⟨#[49, 50, 46, 51, 52, 48]⟩ 6).heap[g2]? = some (.cells #[.int .i64 0, .int .i64 0] 25 (0, 0))) := ⟨(Lib.iterAt_other wr gI g2 ⟨#[49, 50, 46, 51, 52, 48]⟩ 6 N2I.out).trans BK2.out⟩
      have BK52 : Aside0 ((wr.iterAt gI ⟨#[49, 50, 46, 51, 52, 48]⟩ 6).heap[g5]? = some (.cells #[.int .i64 (-1234), .int .i64 2] 25 (0, 0))) := ⟨(Lib.iterAt_other wr gI g5 ⟨#[49, 50, 46, 51, 52, 48]⟩ 6 N5I.out).trans BK5.out⟩
      clear HI HB BK2 BK5
      have HI := HI2
      have HB := HB2
      have BK2 := BK22
      have BK5 := BK52
      clear HI2 HB2 BK22 BK52
      generalize wr.iterAt gI ⟨#[49, 50, 46, 51, 52, 48]⟩ 6 = w1 at *
      have hcz1_0 : w1.cell? ⟨g5, 0, none⟩ = some (.int .i64 (-1234)) := (kH BK5.out 0).trans rfl; have hcz1_1 : w1.cell? ⟨g5, 1, none⟩ = some (.int .i64 2) := (kH BK5.out 1).trans rfl; have hfz1_0 := kJ BK5.out 0; have hfz1_1 := kJ BK5.out 1
      go_wp2_with (first | (go_at_call 32; (with_reducible refine (num_Mul.calls 3 (-1234) 10 (-12340) 0 _ (by decide +kernel)).mono ?_); rintro e_ w2 ⟨rfl, hb⟩; have n0_ := Aside0.mk (kL (by repeat (first | (with_reducible first | exact HB.out | apply kF | apply kB | apply kG | refine kA ?_ GE2.out | refine kA ?_ GE5.out) | exact HB.out)) hb); have n1_ := Aside0.mk (kI (g := g2) (o := .cells #[.int .i64 0, .int .i64 0] 25 (0, 0)) (by refine blk_far ?_ N25.out _; exact BK2.out) hb); have n2_ := Aside0.mk (kI (g := g5) (o := .cells #[.int .i64 (-1234), .int .i64 3] 25 (0, 0)) (by refine blk_put (cs := #[.int .i64 (-1234), .int .i64 2]) ?_ 1 _ rfl; exact BK5.out) hb); have n3_ := Aside0.mk (kI (g := gI) (o := .stringIter ⟨#[49, 50, 46, 51, 52, 48]⟩ 6) (by rw [Below.heap_setCell _ _ _ _ N5I_.out]; exact HI.out) hb); clear HB BK2 BK5 HI; have HB := n0_; have BK2 := n1_; have BK5 := n2_; have HI := n3_; clear n0_ n1_ n2_ n3_ hb; have hcz2_0 : w2.cell? ⟨g5, 0, none⟩ = some (.int .i64 (-1234)) := (kH BK5.out 0).trans rfl; have hcz2_1 : w2.cell? ⟨g5, 1, none⟩ = some (.int .i64 3) := (kH BK5.out 1).trans rfl; have hfz2_0 := kJ BK5.out 0; have hfz2_1 := kJ BK5.out 1) | (go_at_call 33; (with_reducible refine (num_Sub.calls (-12340) 0 (-12340) 0 _ (by decide +kernel)).mono ?_); rintro e_ w3 ⟨rfl, ⟨nd, rfl⟩⟩))
      go_roundg 1
      case measure => have := hq.out; omega
      case rel => exact ⟨⟨by repeat (first | (with_reducible first | exact HB.out | apply kF | apply kB | apply kG | refine kA ?_ GE2.out | refine kA ?_ GE5.out) | exact HB.out)⟩, ⟨blk_far (kC (blk_far BK2.out N25.out _) _) N25.out _⟩, .inr (.inr (.inr (.inr (.inr (.inr (⟨⟨rfl⟩, rfl, rfl, rfl, ⟨blk_put (cs := #[.int .i64 (-12340), .int .i64 3]) (kC (blk_put (cs := #[.int .i64 (-1234), .int .i64 3]) BK5.out 0 _ rfl) _) 0 _ rfl⟩, ⟨(Below.heap_setCell _ _ _ _ N5I_.out).trans (show _ = _ from (Below.heap_setCell _ _ _ _ N5I_.out).trans HI.out)⟩⟩))))))⟩
    · have hnx : ∀ ty, (Instr.next (.pointer (some ⟨gI, 0, none⟩)) true ty).run Try.prog wr = _ := fun ty => Lib.run_next_end_at wr gI ⟨#[49, 50, 46, 51, 52, 48]⟩ 6 ty HI.out (by decide)
      have hcz1_0 : wr.cell? ⟨g5, 0, none⟩ = some (.int .i64 (-12340)) := (kH BK5.out 0).trans rfl; have hcz1_1 : wr.cell? ⟨g5, 1, none⟩ = some (.int .i64 3) := (kH BK5.out 1).trans rfl; have hfz1_0 := kJ BK5.out 0; have hfz1_1 := kJ BK5.out 1
      go_wp2_with (first | (go_at_call 34; (with_reducible refine (num_Neg.calls (-12340) 12340 0 _ (by decide +kernel)).mono ?_); rintro e_ w3 ⟨rfl, ⟨nd, rfl⟩⟩) | (go_at_call 35; (with_reducible refine (dec_made.calls 12340 3 0 12340 3 0 _ (by decide +kernel)).mono ?_); rintro e_ w4 ⟨rfl, hb⟩; have n0_ := Aside0.mk (kL (by repeat (first | (with_reducible first | exact HB.out | apply kF | apply kB | apply kG | refine kA ?_ GE2.out | refine kA ?_ GE5.out) | exact HB.out)) hb); have n1_ := Aside0.mk (kI (g := g2) (o := .cells #[.int .i64 0, .int .i64 0] 25 (0, 0)) (blk_far (kC BK2.out _) N25.out _) hb); clear HB BK2 BK5 HI; have HB := n0_; have BK2 := n1_; clear n0_ n1_ hb; have hcz9_0 : w4.cell? ⟨g2, 0, none⟩ = some (.int .i64 0) := (kH BK2.out 0).trans rfl; have hcz9_1 : w4.cell? ⟨g2, 1, none⟩ = some (.int .i64 0) := (kH BK2.out 1).trans rfl; have hfz9_0 := kJ BK2.out 0; have hfz9_1 := kJ BK2.out 1))
      refine bodyPost_ret (results_ct rfl _ _ g2 25 #[.int .i64 12340, .int .i64 3] (0, 0) _ rfl (by (with_reducible repeat (first | refine kC ?_ _ | refine kE ?_ | refine kD ?_ _)); refine blk_put (cs := #[.int .i64 12340, .int .i64 0]) ?_ 1 _ rfl; (with_reducible repeat (first | refine kC ?_ _ | refine kE ?_ | refine kD ?_ _)); refine blk_put (cs := #[.int .i64 0, .int .i64 0]) ?_ 0 _ rfl; (with_reducible repeat (first | refine kC ?_ _ | refine kE ?_ | refine kD ?_ _)); exact BK2.out) Try.underlying25 rfl (by kernel_rfl)) rfl ?_
      exact ⟨rfl, by repeat (first | (with_reducible first | exact HB.out | apply kF | apply kB | apply kG | refine kA ?_ GE2.out | refine kA ?_ GE5.out) | exact HB.out)⟩
theorem dec_Read.calls (a0 : ByteArray) (r1 : Int) (r2 : Int) (r3 : Int) (w : World) (h : dec_Read.f a0 = some (r1, r2, r3)) :
    Calls Try.prog 11 #[.string a0] w fun e w' => e = .returned (.tuple #[.agg #[.int .i64 r1, .int .i64 r2], .int .i64 r3]) ∧ Below w.heap.size w w' := by
  unfold dec_Read.f at h
  by_cases g : a0 = ⟨#[49, 50, 46, 51, 52, 48]⟩
  · rw [if_pos g] at h
    simp only [Option.some.injEq, Prod.mk.injEq] at h
    obtain ⟨rfl, rfl, rfl⟩ := h
    subst g
    exact dec_Read.at12 w
  · rw [if_neg g] at h
    cases h
noncomputable def dec_Read.con : Con
  | [.str a0] => some ((dec_Read.f a0).isSome, .tup [.agg [.int .i64 (gd (dec_Read.f a0)).1, .int .i64 (gd (dec_Read.f a0)).2.1], .int .i64 (gd (dec_Read.f a0)).2.2])
  | _ => none
set_option maxRecDepth 100000 in
theorem dec_Read.cok : COk Try.prog 11 (dec_Read.con) := by
  intro args p v hc hp w A hA
  unfold dec_Read.con at hc
  split at hc
  · rename_i a0
    simp only [Option.some.injEq, Prod.mk.injEq] at hc
    obtain ⟨rfl, rfl⟩ := hc
    rcases hf : dec_Read.f a0 with _ | ⟨r1, r2, r3⟩
    · rw [hf] at hp; cases hp
    obtain rfl : A = [.string a0] := by simpa [rl_cons, rl_nil, rv_int, rv_bool, rv_str, rv_agg, rv_fn] using hA
    exact gives_of_calls (fn := Try.f11) Try.func11 (by kernel_rfl) (by kernel_rfl) (dec_Read.calls _ _ _ _ w hf) (fun _ => by simp [gd_some, rl_cons, rl_nil, rv_int, rv_bool, rv_str, rv_agg, rv_tup]) (fun _ h => h)
  · cases hc
end Go.Proofs.Ytkongoedgngfhaa.P
namespace Go.Proofs.Ytkongoedgngfhaa.P
open Go.RowKit Go.Proofs.YtkongoedgngfhaaW.PrintWords Go.Proofs.YtkongoedgngfhaaW.PrintLast Go.Proofs.YtkongoedgngfhaaW.PrintMore
open Go.Proofs.Ytkongoedgngfhaa.A
attribute [local go_sem] max2_int min2_int max_two min_two max_three min_three max_four min_four   -- for this text's walks alone
set_option linter.unusedVariables false
set_option linter.unusedSimpArgs false
def dec_Dec_to.f (k : Nat) (a0_0 : Int) (a0_1 : Int) (a1 : Int) : Option (Int × Int × Int) := (dec_ten.f (wrap64 (a1 - a0_1))).bind fun t240 => ((num_Mul.f k a0_0 t240).bind fun bt241 => (if bt241.2 = 0 then (some (bt241.1, a1, 0)) else (some (0, 0, bt241.2))))
theorem dec_Dec_to.mono : ∀ a0 a1 a2 k, LeO (dec_Dec_to.f k a0 a1 a2) (dec_Dec_to.f (k + 1) a0 a1 a2) := by
  intro a0 a1 a2 k
  unfold dec_Dec_to.f
  repeat' first
      | (with_reducible exact num_Mul.mono _ _ _)
      | (with_reducible exact LeO.refl _)
      | (with_reducible exact LeO.none _)
      | (with_reducible refine LeO.ite ?_ ?_)
      | (with_reducible refine LeO.bind ?_ (fun _ => ?_))
      | exact num_Mul.mono _ _ _
      | exact LeO.none _
      | refine LeO.ite ?_ ?_
      | refine LeO.bind ?_ (fun _ => ?_)
set_option maxRecDepth 100000 in
theorem dec_Dec_to.vc (k : Nat) (a0_0 : Int) (a0_1 : Int) (a1 : Int) (K : AV → Prop) : afv PA Try.prog (tab [(32, num_Mul.con k), (45, dec_ten.con)]) noLoops 2 44 [.agg [.int .i64 a0_0, .int .i64 a0_1], .int .i64 a1] K = (brc (Option.isSome (dec_ten.f (IntKind.wrap IntKind.i64 (a1 - a0_1)))) (∀ (m0 : Int), m0 = gd (dec_ten.f (IntKind.wrap IntKind.i64 (a1 - a0_1))) → brc (Option.isSome (num_Mul.f k a0_0 m0)) (∀ (m1 : Int), m1 = Prod.fst (gd (num_Mul.f k a0_0 m0)) → ∀ (m2 : Int), m2 = Prod.snd (gd (num_Mul.f k a0_0 m0)) → brc (m2 != 0) (K (AV.tup [AV.agg [AV.int IntKind.i64 0, AV.int IntKind.i64 0], AV.int IntKind.i64 m2])) (K (AV.tup [AV.agg [AV.int IntKind.i64 m1, AV.int IntKind.i64 a1], AV.int IntKind.i64 0]))) False) False) := by kernel_rfl
set_option maxHeartbeats 1000000 in
set_option maxRecDepth 100000 in
theorem dec_Dec_to.calls (k : Nat) (a0_0 : Int) (a0_1 : Int) (a1 : Int) (r1 : Int) (r2 : Int) (r3 : Int) (w : World) (h : dec_Dec_to.f k a0_0 a0_1 a1 = some (r1, r2, r3)) :
    Calls Try.prog 44 #[.agg #[.int .i64 a0_0, .int .i64 a0_1], .int .i64 a1] w fun e w' => e = .returned (.tuple #[.agg #[.int .i64 r1, .int .i64 r2], .int .i64 r3]) ∧ Below w.heap.size w w' := by
  refine calls_of_vc (A := [.agg #[.int .i64 a0_0, .int .i64 a0_1], .int .i64 a1]) (v := .tup [.agg [.int .i64 r1, .int .i64 r2], .int .i64 r3]) (tab_cons (num_Mul.cok k) (tab_cons (dec_ten.cok) (tab_nil))) ((dec_Dec_to.vc k a0_0 a0_1 a1 _).mpr ?_) (by simp [rl_cons, rl_nil, rv_int, rv_bool, rv_str, rv_agg, rv_fn]) (fun ρ V' hV => by simpa [rl_cons, rl_nil, rv_int, rv_bool, rv_str, rv_agg, rv_tup] using hV)
  unfold dec_Dec_to.f at h
  (try simp only [bne, Option.bind_eq_some_iff, ite_some_iff] at h)
  (try simp only [bne, brc_iff, wrap_i64])
  first
    | grind (splits := 60) [gd_some]
    | ((repeat' (first | (have or_ : Or _ _ := h; clear or_; rcases h with h | h) | (have or_ : Exists _ := h; clear or_; obtain ⟨_, h⟩ := h) | (have or_ : And _ _ := h; clear or_; obtain ⟨hq_, h⟩ := h))) <;> (try simp only [Option.some.injEq, Prod.mk.injEq, reduceCtorEq] at h) <;> (try subst_vars) <;> first | (simp_all [gd_some] <;> (try omega) <;> done) | grind (splits := 60) [gd_some])
    | (intros; subst_vars; simp_all [gd_some]; done)
noncomputable def dec_Dec_to.con (k : Nat) : Con
  | [.agg [.int .i64 a0_0, .int .i64 a0_1], .int .i64 a1] => some ((dec_Dec_to.f k a0_0 a0_1 a1).isSome, .tup [.agg [.int .i64 (gd (dec_Dec_to.f k a0_0 a0_1 a1)).1, .int .i64 (gd (dec_Dec_to.f k a0_0 a0_1 a1)).2.1], .int .i64 (gd (dec_Dec_to.f k a0_0 a0_1 a1)).2.2])
  | _ => none
set_option maxRecDepth 100000 in
theorem dec_Dec_to.cok (k : Nat) : COk Try.prog 44 (dec_Dec_to.con k) := by
  intro args p v hc hp w A hA
  unfold dec_Dec_to.con at hc
  split at hc
  · rename_i a0_0 a0_1 a1
    simp only [Option.some.injEq, Prod.mk.injEq] at hc
    obtain ⟨rfl, rfl⟩ := hc
    rcases hf : dec_Dec_to.f k a0_0 a0_1 a1 with _ | ⟨r1, r2, r3⟩
    · rw [hf] at hp; cases hp
    obtain rfl : A = [.agg #[.int .i64 a0_0, .int .i64 a0_1], .int .i64 a1] := by simpa [rl_cons, rl_nil, rv_int, rv_bool, rv_str, rv_agg, rv_fn] using hA
    exact gives_of_calls (fn := Try.f44) Try.func44 (by kernel_rfl) (by kernel_rfl) (dec_Dec_to.calls _ _ _ _ _ _ _ w hf) (fun _ => by simp [gd_some, rl_cons, rl_nil, rv_int, rv_bool, rv_str, rv_agg, rv_tup]) (fun _ h => h)
  · cases hc
theorem dec_Dec_to.up {k : Nat} {a0_0 : Int} {a0_1 : Int} {a1 : Int} {r : Int × Int × Int} (h : dec_Dec_to.f k a0_0 a0_1 a1 = some r) : dec_Dec_to.f (k + 1) a0_0 a0_1 a1 = some r := dec_Dec_to.mono a0_0 a0_1 a1 k _ h
theorem dec_Dec_to.le {a0_0 : Int} {a0_1 : Int} {a1 : Int} {r : Int × Int × Int} {k n : Nat} (h : dec_Dec_to.f k a0_0 a0_1 a1 = some r) (hk : k ≤ n) : dec_Dec_to.f n a0_0 a0_1 a1 = some r := by
  induction hk with
  | refl => exact h
  | step _ ih => exact dec_Dec_to.up ih
end Go.Proofs.Ytkongoedgngfhaa.P
namespace Go.Proofs.Ytkongoedgngfhaa.P
open Go.RowKit Go.Proofs.YtkongoedgngfhaaW.PrintWords Go.Proofs.YtkongoedgngfhaaW.PrintLast Go.Proofs.YtkongoedgngfhaaW.PrintMore
open Go.Proofs.Ytkongoedgngfhaa.A
attribute [local go_sem] max2_int min2_int max_two min_two max_three min_three max_four min_four   -- for this text's walks alone
set_option linter.unusedVariables false
set_option linter.unusedSimpArgs false
def dec_Round.j0 : Nat → Int → Bool → Int → Int → Option (Int × Int × Int)
  | 0, _, _, _, _ => none
  | k + 1, x1, x9, x244000, x244001 => if x9 = true then (some (0, 0, 1)) else (if x1 ≥ x244001 then ((dec_Dec_to.f k x244000 x244001 x1).bind fun bt246 => (some (bt246.1, bt246.2.1, bt246.2.2))) else ((dec_ten.f (wrap64 (x244001 - x1))).bind fun t249 => (if t249 = 0 then (none) else (if (wrap64 (2 * (mx (Int.tmod x244000 t249) (wrap64 (-(Int.tmod x244000 t249)))))) ≥ t249 then (if (Int.tmod x244000 t249) > 0 then (some (wrap64 ((wrap64 (Int.tdiv x244000 t249)) + 1), x1, 0)) else (some (wrap64 ((wrap64 (Int.tdiv x244000 t249)) - 1), x1, 0))) else (some (wrap64 (Int.tdiv x244000 t249), x1, 0))))))
def dec_Round.f (k : Nat) (a0_0 : Int) (a0_1 : Int) (a1 : Int) : Option (Int × Int × Int) := (dec_Right.f a0_0 a0_1).bind fun t245 => (if t245 = true then (if a1 < 0 then (dec_Round.j0 k a1 true a0_0 a0_1) else (dec_Round.j0 k a1 (decide (a1 > 9)) a0_0 a0_1)) else (dec_Round.j0 k a1 true a0_0 a0_1))
theorem dec_Round.mono_l : ∀ k, (∀ y0 y1 y2 y3, LeO (dec_Round.j0 k y0 y1 y2 y3) (dec_Round.j0 (k + 1) y0 y1 y2 y3))
  | 0 => fun _ _ _ _ r h => by simp [dec_Round.j0] at h
  | k + 1 => by
    have ih0 := dec_Round.mono_l k
    · intro y0 y1 y2 y3
      unfold dec_Round.j0
      repeat' first
      | (with_reducible exact ih0 _ _ _ _)
      | (with_reducible exact dec_Dec_to.mono _ _ _ _)
      | (with_reducible exact LeO.refl _)
      | (with_reducible exact LeO.none _)
      | (with_reducible refine LeO.ite ?_ ?_)
      | (with_reducible refine LeO.bind ?_ (fun _ => ?_))
      | exact ih0 _ _ _ _
      | exact dec_Dec_to.mono _ _ _ _
      | exact LeO.none _
      | refine LeO.ite ?_ ?_
      | refine LeO.bind ?_ (fun _ => ?_)
theorem dec_Round.mono : ∀ a0 a1 a2 k, LeO (dec_Round.f k a0 a1 a2) (dec_Round.f (k + 1) a0 a1 a2) := by
  intro a0 a1 a2 k
  have ih0 := dec_Round.mono_l k
  unfold dec_Round.f
  repeat' first
      | (with_reducible exact ih0 _ _ _ _)
      | (with_reducible exact dec_Dec_to.mono _ _ _ _)
      | (with_reducible exact LeO.refl _)
      | (with_reducible exact LeO.none _)
      | (with_reducible refine LeO.ite ?_ ?_)
      | (with_reducible refine LeO.bind ?_ (fun _ => ?_))
      | exact ih0 _ _ _ _
      | exact dec_Dec_to.mono _ _ _ _
      | exact LeO.none _
      | refine LeO.ite ?_ ?_
      | refine LeO.bind ?_ (fun _ => ?_)
set_option maxRecDepth 100000 in
theorem dec_Round.vc (k : Nat) (a0_0 : Int) (a0_1 : Int) (a1 : Int) (K : AV → Prop) : afv PA Try.prog (tab [(31, dec_Right.con), (45, dec_ten.con), (44, dec_Dec_to.con k)]) noLoops 2 19 [.agg [.int .i64 a0_0, .int .i64 a0_1], .int .i64 a1] K = (brc (Option.isSome (dec_Right.f a0_0 a0_1)) (∀ (m0 : Bool), m0 = gd (dec_Right.f a0_0 a0_1) → brc (!m0) (K (AV.tup [AV.agg [AV.int IntKind.i64 0, AV.int IntKind.i64 0], AV.int IntKind.i64 1])) (brc (decide (a1 < 0)) (K (AV.tup [AV.agg [AV.int IntKind.i64 0, AV.int IntKind.i64 0], AV.int IntKind.i64 1])) (brc (decide (a1 > 9)) (K (AV.tup [AV.agg [AV.int IntKind.i64 0, AV.int IntKind.i64 0], AV.int IntKind.i64 1])) (brc (decide (a1 ≥ a0_1)) (brc (Option.isSome (dec_Dec_to.f k a0_0 a0_1 a1)) (∀ (m1 : Int), m1 = Prod.fst (gd (dec_Dec_to.f k a0_0 a0_1 a1)) → ∀ (m2 : Int), m2 = Prod.fst (Prod.snd (gd (dec_Dec_to.f k a0_0 a0_1 a1))) → ∀ (m3 : Int), m3 = Prod.snd (Prod.snd (gd (dec_Dec_to.f k a0_0 a0_1 a1))) → K (AV.tup [AV.agg [AV.int IntKind.i64 m1, AV.int IntKind.i64 m2], AV.int IntKind.i64 m3])) False) (brc (Option.isSome (dec_ten.f (IntKind.wrap IntKind.i64 (a0_1 - a1)))) (∀ (m1 : Int), m1 = gd (dec_ten.f (IntKind.wrap IntKind.i64 (a0_1 - a1))) → brc (decide (m1 ≠ 0)) (brc (decide (m1 ≠ 0)) (brc (decide (IntKind.wrap IntKind.i64 (2 * if IntKind.wrap IntKind.i64 (0 - Int.tmod a0_0 m1) > Int.tmod a0_0 m1 then IntKind.wrap IntKind.i64 (0 - Int.tmod a0_0 m1) else Int.tmod a0_0 m1) ≥ m1)) (brc (decide (Int.tmod a0_0 m1 > 0)) (K (AV.tup [AV.agg [AV.int IntKind.i64 (IntKind.wrap IntKind.i64 (IntKind.wrap IntKind.i64 (Int.tdiv a0_0 m1) + 1)), AV.int IntKind.i64 a1], AV.int IntKind.i64 0])) (K (AV.tup [AV.agg [AV.int IntKind.i64 (IntKind.wrap IntKind.i64 (IntKind.wrap IntKind.i64 (Int.tdiv a0_0 m1) - 1)), AV.int IntKind.i64 a1], AV.int IntKind.i64 0]))) (K (AV.tup [AV.agg [AV.int IntKind.i64 (IntKind.wrap IntKind.i64 (Int.tdiv a0_0 m1)), AV.int IntKind.i64 a1], AV.int IntKind.i64 0]))) False) False) False))))) False) := by kernel_rfl
set_option maxHeartbeats 1000000 in
set_option maxRecDepth 100000 in
theorem dec_Round.calls (k : Nat) (a0_0 : Int) (a0_1 : Int) (a1 : Int) (r1 : Int) (r2 : Int) (r3 : Int) (w : World) (h : dec_Round.f k a0_0 a0_1 a1 = some (r1, r2, r3)) :
    Calls Try.prog 19 #[.agg #[.int .i64 a0_0, .int .i64 a0_1], .int .i64 a1] w fun e w' => e = .returned (.tuple #[.agg #[.int .i64 r1, .int .i64 r2], .int .i64 r3]) ∧ Below w.heap.size w w' := by
  refine calls_of_vc (A := [.agg #[.int .i64 a0_0, .int .i64 a0_1], .int .i64 a1]) (v := .tup [.agg [.int .i64 r1, .int .i64 r2], .int .i64 r3]) (tab_cons (dec_Right.cok) (tab_cons (dec_ten.cok) (tab_cons (dec_Dec_to.cok k) (tab_nil)))) ((dec_Round.vc k a0_0 a0_1 a1 _).mpr ?_) (by simp [rl_cons, rl_nil, rv_int, rv_bool, rv_str, rv_agg, rv_fn]) (fun ρ V' hV => by simpa [rl_cons, rl_nil, rv_int, rv_bool, rv_str, rv_agg, rv_tup] using hV)
  unfold dec_Round.f at h
  cases k with
  | zero =>
    (try simp only [dec_Round.j0] at h)
    (try simp only [bne, Option.bind_eq_some_iff, ite_some_iff] at h)
    (try simp only [bne, brc_iff, wrap_i64])
    first
      | grind (splits := 60) [gd_some, mx]
      | ((repeat' (first | (have or_ : Or _ _ := h; clear or_; rcases h with h | h) | (have or_ : Exists _ := h; clear or_; obtain ⟨_, h⟩ := h) | (have or_ : And _ _ := h; clear or_; obtain ⟨hq_, h⟩ := h))) <;> (try simp only [Option.some.injEq, Prod.mk.injEq, reduceCtorEq] at h) <;> (try subst_vars) <;> first | (simp_all [gd_some, mx] <;> (try omega) <;> done) | grind (splits := 60) [gd_some, mx])
      | (intros; subst_vars; simp_all [gd_some]; done)
  | succ k =>
    (try simp only [dec_Round.j0] at h)
    (try simp only [bne, Option.bind_eq_some_iff, ite_some_iff] at h)
    (try simp only [bne, brc_iff, wrap_i64])
    first
      | grind (splits := 60) [gd_some, mx, dec_Dec_to.up]
      | ((repeat' (first | (have or_ : Or _ _ := h; clear or_; rcases h with h | h) | (have or_ : Exists _ := h; clear or_; obtain ⟨_, h⟩ := h) | (have or_ : And _ _ := h; clear or_; obtain ⟨hq_, h⟩ := h; (try first | replace hq_ := dec_Dec_to.le (n := k + 1) hq_ (by omega))))) <;> (try simp only [Option.some.injEq, Prod.mk.injEq, reduceCtorEq] at h) <;> (try subst_vars) <;> first | (simp_all [gd_some, mx] <;> (try omega) <;> done) | grind (splits := 60) [gd_some, mx, dec_Dec_to.up])
      | (intros; subst_vars; simp_all [gd_some]; done)
noncomputable def dec_Round.con (k : Nat) : Con
  | [.agg [.int .i64 a0_0, .int .i64 a0_1], .int .i64 a1] => some ((dec_Round.f k a0_0 a0_1 a1).isSome, .tup [.agg [.int .i64 (gd (dec_Round.f k a0_0 a0_1 a1)).1, .int .i64 (gd (dec_Round.f k a0_0 a0_1 a1)).2.1], .int .i64 (gd (dec_Round.f k a0_0 a0_1 a1)).2.2])
  | _ => none
set_option maxRecDepth 100000 in
theorem dec_Round.cok (k : Nat) : COk Try.prog 19 (dec_Round.con k) := by
  intro args p v hc hp w A hA
  unfold dec_Round.con at hc
  split at hc
  · rename_i a0_0 a0_1 a1
    simp only [Option.some.injEq, Prod.mk.injEq] at hc
    obtain ⟨rfl, rfl⟩ := hc
    rcases hf : dec_Round.f k a0_0 a0_1 a1 with _ | ⟨r1, r2, r3⟩
    · rw [hf] at hp; cases hp
    obtain rfl : A = [.agg #[.int .i64 a0_0, .int .i64 a0_1], .int .i64 a1] := by simpa [rl_cons, rl_nil, rv_int, rv_bool, rv_str, rv_agg, rv_fn] using hA
    exact gives_of_calls (fn := Try.f19) Try.func19 (by kernel_rfl) (by kernel_rfl) (dec_Round.calls _ _ _ _ _ _ _ w hf) (fun _ => by simp [gd_some, rl_cons, rl_nil, rv_int, rv_bool, rv_str, rv_agg, rv_tup]) (fun _ h => h)
  · cases hc
end Go.Proofs.Ytkongoedgngfhaa.P
namespace Go.Proofs.Ytkongoedgngfhaa.P
open Go.RowKit Go.Proofs.YtkongoedgngfhaaW.PrintWords Go.Proofs.YtkongoedgngfhaaW.PrintLast Go.Proofs.YtkongoedgngfhaaW.PrintMore
open Go.Proofs.Ytkongoedgngfhaa.A
attribute [local go_sem] max2_int min2_int max_two min_two max_three min_three max_four min_four   -- for this text's walks alone
set_option linter.unusedVariables false
set_option linter.unusedSimpArgs false
def bits_Len64.j0 : Nat → Int → Int → Option (Int)
  | 0, _, _ => none
  | k + 1, x0, x2 => if x0 ≥ 65536 then (if (x0 / 65536) ≥ 256 then (if 0 ≤ (((x0 / 65536) / 256) % 256) then (if (((x0 / 65536) / 256) % 256) < 256 then (some (wrap64 ((wrap64 ((wrap64 (x2 + 16)) + 8)) + (wrap64 (bt (⟨#[0, 1, 2, 2, 3, 3, 3, 3, 4, 4, 4, 4, 4, 4, 4, 4, 5, 5, 5, 5, 5, 5, 5, 5, 5, 5, 5, 5, 5, 5, 5, 5, 6, 6, 6, 6, 6, 6, 6, 6, 6, 6, 6, 6, 6, 6, 6, 6, 6, 6, 6, 6, 6, 6, 6, 6, 6, 6, 6, 6, 6, 6, 6, 6, 7, 7, 7, 7, 7, 7, 7, 7, 7, 7, 7, 7, 7, 7, 7, 7, 7, 7, 7, 7, 7, 7, 7, 7, 7, 7, 7, 7, 7, 7, 7, 7, 7, 7, 7, 7, 7, 7, 7, 7, 7, 7, 7, 7, 7, 7, 7, 7, 7, 7, 7, 7, 7, 7, 7, 7, 7, 7, 7, 7, 7, 7, 7, 7, 8, 8, 8, 8, 8, 8, 8, 8, 8, 8, 8, 8, 8, 8, 8, 8, 8, 8, 8, 8, 8, 8, 8, 8, 8, 8, 8, 8, 8, 8, 8, 8, 8, 8, 8, 8, 8, 8, 8, 8, 8, 8, 8, 8, 8, 8, 8, 8, 8, 8, 8, 8, 8, 8, 8, 8, 8, 8, 8, 8, 8, 8, 8, 8, 8, 8, 8, 8, 8, 8, 8, 8, 8, 8, 8, 8, 8, 8, 8, 8, 8, 8, 8, 8, 8, 8, 8, 8, 8, 8, 8, 8, 8, 8, 8, 8, 8, 8, 8, 8, 8, 8, 8, 8, 8, 8, 8, 8, 8, 8, 8, 8, 8, 8, 8, 8, 8, 8, 8, 8, 8, 8, 8, 8, 8, 8, 8, 8]⟩ : ByteArray) (((x0 / 65536) / 256) % 256)))))) else (none)) else (none)) else (if 0 ≤ ((x0 / 65536) % 256) then (if ((x0 / 65536) % 256) < 256 then (some (wrap64 ((wrap64 (x2 + 16)) + (wrap64 (bt (⟨#[0, 1, 2, 2, 3, 3, 3, 3, 4, 4, 4, 4, 4, 4, 4, 4, 5, 5, 5, 5, 5, 5, 5, 5, 5, 5, 5, 5, 5, 5, 5, 5, 6, 6, 6, 6, 6, 6, 6, 6, 6, 6, 6, 6, 6, 6, 6, 6, 6, 6, 6, 6, 6, 6, 6, 6, 6, 6, 6, 6, 6, 6, 6, 6, 7, 7, 7, 7, 7, 7, 7, 7, 7, 7, 7, 7, 7, 7, 7, 7, 7, 7, 7, 7, 7, 7, 7, 7, 7, 7, 7, 7, 7, 7, 7, 7, 7, 7, 7, 7, 7, 7, 7, 7, 7, 7, 7, 7, 7, 7, 7, 7, 7, 7, 7, 7, 7, 7, 7, 7, 7, 7, 7, 7, 7, 7, 7, 7, 8, 8, 8, 8, 8, 8, 8, 8, 8, 8, 8, 8, 8, 8, 8, 8, 8, 8, 8, 8, 8, 8, 8, 8, 8, 8, 8, 8, 8, 8, 8, 8, 8, 8, 8, 8, 8, 8, 8, 8, 8, 8, 8, 8, 8, 8, 8, 8, 8, 8, 8, 8, 8, 8, 8, 8, 8, 8, 8, 8, 8, 8, 8, 8, 8, 8, 8, 8, 8, 8, 8, 8, 8, 8, 8, 8, 8, 8, 8, 8, 8, 8, 8, 8, 8, 8, 8, 8, 8, 8, 8, 8, 8, 8, 8, 8, 8, 8, 8, 8, 8, 8, 8, 8, 8, 8, 8, 8, 8, 8, 8, 8, 8, 8, 8, 8, 8, 8, 8, 8, 8, 8, 8, 8, 8, 8, 8, 8]⟩ : ByteArray) ((x0 / 65536) % 256)))))) else (none)) else (none))) else (if x0 ≥ 256 then (if 0 ≤ ((x0 / 256) % 256) then (if ((x0 / 256) % 256) < 256 then (some (wrap64 ((wrap64 (x2 + 8)) + (wrap64 (bt (⟨#[0, 1, 2, 2, 3, 3, 3, 3, 4, 4, 4, 4, 4, 4, 4, 4, 5, 5, 5, 5, 5, 5, 5, 5, 5, 5, 5, 5, 5, 5, 5, 5, 6, 6, 6, 6, 6, 6, 6, 6, 6, 6, 6, 6, 6, 6, 6, 6, 6, 6, 6, 6, 6, 6, 6, 6, 6, 6, 6, 6, 6, 6, 6, 6, 7, 7, 7, 7, 7, 7, 7, 7, 7, 7, 7, 7, 7, 7, 7, 7, 7, 7, 7, 7, 7, 7, 7, 7, 7, 7, 7, 7, 7, 7, 7, 7, 7, 7, 7, 7, 7, 7, 7, 7, 7, 7, 7, 7, 7, 7, 7, 7, 7, 7, 7, 7, 7, 7, 7, 7, 7, 7, 7, 7, 7, 7, 7, 7, 8, 8, 8, 8, 8, 8, 8, 8, 8, 8, 8, 8, 8, 8, 8, 8, 8, 8, 8, 8, 8, 8, 8, 8, 8, 8, 8, 8, 8, 8, 8, 8, 8, 8, 8, 8, 8, 8, 8, 8, 8, 8, 8, 8, 8, 8, 8, 8, 8, 8, 8, 8, 8, 8, 8, 8, 8, 8, 8, 8, 8, 8, 8, 8, 8, 8, 8, 8, 8, 8, 8, 8, 8, 8, 8, 8, 8, 8, 8, 8, 8, 8, 8, 8, 8, 8, 8, 8, 8, 8, 8, 8, 8, 8, 8, 8, 8, 8, 8, 8, 8, 8, 8, 8, 8, 8, 8, 8, 8, 8, 8, 8, 8, 8, 8, 8, 8, 8, 8, 8, 8, 8, 8, 8, 8, 8, 8, 8]⟩ : ByteArray) ((x0 / 256) % 256)))))) else (none)) else (none)) else (if 0 ≤ ((x0) % 256) then (if ((x0) % 256) < 256 then (some (wrap64 (x2 + (wrap64 (bt (⟨#[0, 1, 2, 2, 3, 3, 3, 3, 4, 4, 4, 4, 4, 4, 4, 4, 5, 5, 5, 5, 5, 5, 5, 5, 5, 5, 5, 5, 5, 5, 5, 5, 6, 6, 6, 6, 6, 6, 6, 6, 6, 6, 6, 6, 6, 6, 6, 6, 6, 6, 6, 6, 6, 6, 6, 6, 6, 6, 6, 6, 6, 6, 6, 6, 7, 7, 7, 7, 7, 7, 7, 7, 7, 7, 7, 7, 7, 7, 7, 7, 7, 7, 7, 7, 7, 7, 7, 7, 7, 7, 7, 7, 7, 7, 7, 7, 7, 7, 7, 7, 7, 7, 7, 7, 7, 7, 7, 7, 7, 7, 7, 7, 7, 7, 7, 7, 7, 7, 7, 7, 7, 7, 7, 7, 7, 7, 7, 7, 8, 8, 8, 8, 8, 8, 8, 8, 8, 8, 8, 8, 8, 8, 8, 8, 8, 8, 8, 8, 8, 8, 8, 8, 8, 8, 8, 8, 8, 8, 8, 8, 8, 8, 8, 8, 8, 8, 8, 8, 8, 8, 8, 8, 8, 8, 8, 8, 8, 8, 8, 8, 8, 8, 8, 8, 8, 8, 8, 8, 8, 8, 8, 8, 8, 8, 8, 8, 8, 8, 8, 8, 8, 8, 8, 8, 8, 8, 8, 8, 8, 8, 8, 8, 8, 8, 8, 8, 8, 8, 8, 8, 8, 8, 8, 8, 8, 8, 8, 8, 8, 8, 8, 8, 8, 8, 8, 8, 8, 8, 8, 8, 8, 8, 8, 8, 8, 8, 8, 8, 8, 8, 8, 8, 8, 8, 8, 8]⟩ : ByteArray) ((x0) % 256)))))) else (none)) else (none)))
def bits_Len64.f (k : Nat) (a0 : Int) : Option (Int) := if a0 ≥ 4294967296 then (bits_Len64.j0 k (a0 / 4294967296) 32) else (bits_Len64.j0 k a0 0)
theorem bits_Len64.mono_l : ∀ k, (∀ y0 y1, LeO (bits_Len64.j0 k y0 y1) (bits_Len64.j0 (k + 1) y0 y1))
  | 0 => fun _ _ r h => by simp [bits_Len64.j0] at h
  | k + 1 => by
    have ih0 := bits_Len64.mono_l k
    · intro y0 y1
      unfold bits_Len64.j0
      repeat' first
      | (with_reducible exact ih0 _ _)
      | (with_reducible exact LeO.refl _)
      | (with_reducible exact LeO.none _)
      | (with_reducible refine LeO.ite ?_ ?_)
      | (with_reducible refine LeO.bind ?_ (fun _ => ?_))
      | exact ih0 _ _
      | exact LeO.none _
      | refine LeO.ite ?_ ?_
      | refine LeO.bind ?_ (fun _ => ?_)
theorem bits_Len64.mono : ∀ a0 k, LeO (bits_Len64.f k a0) (bits_Len64.f (k + 1) a0) := by
  intro a0 k
  have ih0 := bits_Len64.mono_l k
  unfold bits_Len64.f
  repeat' first
      | (with_reducible exact ih0 _ _)
      | (with_reducible exact LeO.refl _)
      | (with_reducible exact LeO.none _)
      | (with_reducible refine LeO.ite ?_ ?_)
      | (with_reducible refine LeO.bind ?_ (fun _ => ?_))
      | exact ih0 _ _
      | exact LeO.none _
      | refine LeO.ite ?_ ?_
      | refine LeO.bind ?_ (fun _ => ?_)
set_option maxHeartbeats 8000000 in
set_option maxRecDepth 100000 in
theorem bits_Len64.calls (k : Nat) (a0 : Int) (r : Int) (w : World) (h : bits_Len64.f k a0 = some r) :
    Calls Try.prog 71 #[.int .u64 a0] w fun e w' => e = .returned (.int .i64 r) ∧ Drawn0 w w' := by
  have H : (if a0 ≥ 4294967296 then (bits_Len64.j0 k (a0 / 4294967296) 32) else (bits_Len64.j0 k a0 0)) = some r := h
  clear h
  have HC2 := Aside0.mk H
  clear H
  go_enter Try.func71, Try.ntmps71
  go_upto_if 4 with (fail)
  go_cut [0, 2] (fun v0 v2 wc => ∃ (kq : Nat) (x0_1 : Int) (x2_1 : Int), v0 = .int .u64 x0_1 ∧ v2 = .int .i64 x2_1 ∧ Aside0 (bits_Len64.j0 kq x0_1 x2_1 = some r) ∧ Aside0 (kq ≤ k) ∧ Drawn0 w wc)
  case first =>
    have H := HC2.out
    clear HC2
    by_cases c3 : a0 ≥ 4294967296
    · rw [if_pos c3] at H
      have c3b0 : decide (4294967296 ≤ a0) = true := decide_eq_true c3
      clear c3
      (first | rw [c3b0] | (simp only [i64_w, i32_w]; rw [c3b0]) | skip)
      have H' := Aside0.mk H
      clear H
      go_wp2
      go_meet
      case rel => exact ⟨_, (a0 / 4294967296), (32), (by first | rfl | (simp; done) | (simp [*]; done)), (by first | rfl | (simp; done) | (simp [*]; done)), H', ⟨by first | omega | exact Nat.le_refl _⟩, by repeat (first | exact Drawn0.refl _ | apply Drawn0.step)⟩
    · rw [if_neg c3] at H
      have c3b0 : decide (4294967296 ≤ a0) = false := decide_eq_false c3
      clear c3
      (first | rw [c3b0] | (simp only [i64_w, i32_w]; rw [c3b0]) | skip)
      have H' := Aside0.mk H
      clear H
      go_wp2
      go_meet
      case rel => exact ⟨_, (a0), (0), (by first | rfl | (simp; done) | (simp [*]; done)), (by first | rfl | (simp; done) | (simp [*]; done)), H', ⟨by first | omega | exact Nat.le_refl _⟩, by repeat (first | exact Drawn0.refl _ | apply Drawn0.step)⟩
  case rest =>
    clear HC2
    try clear p2
    try clear c3
    try clear c3b0
    obtain ⟨kq, x0_1, x2_1, rfl, rfl, HA, HJ1, ⟨mc1, rfl⟩⟩ := hcut
    cases kq with
    | zero => exact absurd HA.out (by simp [bits_Len64.j0])
    | succ kj1 =>
      have H := HA.out
      clear HA
      simp only [bits_Len64.j0] at H
      by_cases c4 : x0_1 ≥ 65536
      · rw [if_pos c4] at H
        have c4b0 : decide (65536 ≤ x0_1) = true := decide_eq_true c4
        clear c4
        by_cases c5 : (x0_1 / 65536) ≥ 256
        · rw [if_pos c5] at H
          have c5b0 : decide (256 ≤ (x0_1 / 65536)) = true := decide_eq_true c5
          clear c5
          obtain ⟨ji6, hji6⟩ : ∃ j_ : Int, (((x0_1 / 65536) / 256) % 256) = j_ := ⟨_, rfl⟩
          replace H : (if 0 ≤ (ji6) then (if (ji6) < 256 then (some (wrap64 ((wrap64 ((wrap64 (x2_1 + 16)) + 8)) + (wrap64 (bt (⟨#[0, 1, 2, 2, 3, 3, 3, 3, 4, 4, 4, 4, 4, 4, 4, 4, 5, 5, 5, 5, 5, 5, 5, 5, 5, 5, 5, 5, 5, 5, 5, 5, 6, 6, 6, 6, 6, 6, 6, 6, 6, 6, 6, 6, 6, 6, 6, 6, 6, 6, 6, 6, 6, 6, 6, 6, 6, 6, 6, 6, 6, 6, 6, 6, 7, 7, 7, 7, 7, 7, 7, 7, 7, 7, 7, 7, 7, 7, 7, 7, 7, 7, 7, 7, 7, 7, 7, 7, 7, 7, 7, 7, 7, 7, 7, 7, 7, 7, 7, 7, 7, 7, 7, 7, 7, 7, 7, 7, 7, 7, 7, 7, 7, 7, 7, 7, 7, 7, 7, 7, 7, 7, 7, 7, 7, 7, 7, 7, 8, 8, 8, 8, 8, 8, 8, 8, 8, 8, 8, 8, 8, 8, 8, 8, 8, 8, 8, 8, 8, 8, 8, 8, 8, 8, 8, 8, 8, 8, 8, 8, 8, 8, 8, 8, 8, 8, 8, 8, 8, 8, 8, 8, 8, 8, 8, 8, 8, 8, 8, 8, 8, 8, 8, 8, 8, 8, 8, 8, 8, 8, 8, 8, 8, 8, 8, 8, 8, 8, 8, 8, 8, 8, 8, 8, 8, 8, 8, 8, 8, 8, 8, 8, 8, 8, 8, 8, 8, 8, 8, 8, 8, 8, 8, 8, 8, 8, 8, 8, 8, 8, 8, 8, 8, 8, 8, 8, 8, 8, 8, 8, 8, 8, 8, 8, 8, 8, 8, 8, 8, 8, 8, 8, 8, 8, 8, 8]⟩ : ByteArray) (ji6)))))) else (none)) else (none)) = some r := by first | (rw [hji6] at H; exact H) | (simp only [hji6] at H ⊢; exact H)
          by_cases c7 : 0 ≤ (ji6)
          · rw [if_pos c7] at H
            have c7b0 : decide (0 ≤ (ji6)) = true := decide_eq_true c7
            clear c7
            by_cases c8 : (ji6) < 256
            · rw [if_pos c8] at H
              have c8b0 : decide ((ji6) < 256) = true := decide_eq_true c8
              clear c8
              obtain rfl := Option.some.inj H
              have p9 : 0 ≤ ((ji6) : Int) := of_decide_eq_true (by first | (with_reducible assumption) | assumption)
              have q9 : (ji6) < (256 : Int) := of_decide_eq_true (by first | (with_reducible assumption) | assumption)
              have hx9 := bt_at (⟨#[0, 1, 2, 2, 3, 3, 3, 3, 4, 4, 4, 4, 4, 4, 4, 4, 5, 5, 5, 5, 5, 5, 5, 5, 5, 5, 5, 5, 5, 5, 5, 5, 6, 6, 6, 6, 6, 6, 6, 6, 6, 6, 6, 6, 6, 6, 6, 6, 6, 6, 6, 6, 6, 6, 6, 6, 6, 6, 6, 6, 6, 6, 6, 6, 7, 7, 7, 7, 7, 7, 7, 7, 7, 7, 7, 7, 7, 7, 7, 7, 7, 7, 7, 7, 7, 7, 7, 7, 7, 7, 7, 7, 7, 7, 7, 7, 7, 7, 7, 7, 7, 7, 7, 7, 7, 7, 7, 7, 7, 7, 7, 7, 7, 7, 7, 7, 7, 7, 7, 7, 7, 7, 7, 7, 7, 7, 7, 7, 8, 8, 8, 8, 8, 8, 8, 8, 8, 8, 8, 8, 8, 8, 8, 8, 8, 8, 8, 8, 8, 8, 8, 8, 8, 8, 8, 8, 8, 8, 8, 8, 8, 8, 8, 8, 8, 8, 8, 8, 8, 8, 8, 8, 8, 8, 8, 8, 8, 8, 8, 8, 8, 8, 8, 8, 8, 8, 8, 8, 8, 8, 8, 8, 8, 8, 8, 8, 8, 8, 8, 8, 8, 8, 8, 8, 8, 8, 8, 8, 8, 8, 8, 8, 8, 8, 8, 8, 8, 8, 8, 8, 8, 8, 8, 8, 8, 8, 8, 8, 8, 8, 8, 8, 8, 8, 8, 8, 8, 8, 8, 8, 8, 8, 8, 8, 8, 8, 8, 8, 8, 8, 8, 8, 8, 8, 8, 8]⟩ : ByteArray) (ji6)
              replace p9 := eq_true p9
              replace q9 := eq_true q9
              go_wp2
              go_ret
              exact ⟨by first | rfl | (simp; done) | (simp only [← hji6] <;> (first | rfl | simp)) | (simp [*]; done), by repeat (first | exact Drawn0.refl _ | apply Drawn0.step)⟩
            · rw [if_neg c8] at H
              exact absurd H (by simp)
          · rw [if_neg c7] at H
            exact absurd H (by simp)
        · rw [if_neg c5] at H
          have c5b0 : decide (256 ≤ (x0_1 / 65536)) = false := decide_eq_false c5
          clear c5
          obtain ⟨ji10, hji10⟩ : ∃ j_ : Int, ((x0_1 / 65536) % 256) = j_ := ⟨_, rfl⟩
          replace H : (if 0 ≤ (ji10) then (if (ji10) < 256 then (some (wrap64 ((wrap64 (x2_1 + 16)) + (wrap64 (bt (⟨#[0, 1, 2, 2, 3, 3, 3, 3, 4, 4, 4, 4, 4, 4, 4, 4, 5, 5, 5, 5, 5, 5, 5, 5, 5, 5, 5, 5, 5, 5, 5, 5, 6, 6, 6, 6, 6, 6, 6, 6, 6, 6, 6, 6, 6, 6, 6, 6, 6, 6, 6, 6, 6, 6, 6, 6, 6, 6, 6, 6, 6, 6, 6, 6, 7, 7, 7, 7, 7, 7, 7, 7, 7, 7, 7, 7, 7, 7, 7, 7, 7, 7, 7, 7, 7, 7, 7, 7, 7, 7, 7, 7, 7, 7, 7, 7, 7, 7, 7, 7, 7, 7, 7, 7, 7, 7, 7, 7, 7, 7, 7, 7, 7, 7, 7, 7, 7, 7, 7, 7, 7, 7, 7, 7, 7, 7, 7, 7, 8, 8, 8, 8, 8, 8, 8, 8, 8, 8, 8, 8, 8, 8, 8, 8, 8, 8, 8, 8, 8, 8, 8, 8, 8, 8, 8, 8, 8, 8, 8, 8, 8, 8, 8, 8, 8, 8, 8, 8, 8, 8, 8, 8, 8, 8, 8, 8, 8, 8, 8, 8, 8, 8, 8, 8, 8, 8, 8, 8, 8, 8, 8, 8, 8, 8, 8, 8, 8, 8, 8, 8, 8, 8, 8, 8, 8, 8, 8, 8, 8, 8, 8, 8, 8, 8, 8, 8, 8, 8, 8, 8, 8, 8, 8, 8, 8, 8, 8, 8, 8, 8, 8, 8, 8, 8, 8, 8, 8, 8, 8, 8, 8, 8, 8, 8, 8, 8, 8, 8, 8, 8, 8, 8, 8, 8, 8, 8]⟩ : ByteArray) (ji10)))))) else (none)) else (none)) = some r := by first | (rw [hji10] at H; exact H) | (simp only [hji10] at H ⊢; exact H)
          by_cases c11 : 0 ≤ (ji10)
          · rw [if_pos c11] at H
            have c11b0 : decide (0 ≤ (ji10)) = true := decide_eq_true c11
            clear c11
            by_cases c12 : (ji10) < 256
            · rw [if_pos c12] at H
              have c12b0 : decide ((ji10) < 256) = true := decide_eq_true c12
              clear c12
              obtain rfl := Option.some.inj H
              have p13 : 0 ≤ ((ji10) : Int) := of_decide_eq_true (by first | (with_reducible assumption) | assumption)
              have q13 : (ji10) < (256 : Int) := of_decide_eq_true (by first | (with_reducible assumption) | assumption)
              have hx13 := bt_at (⟨#[0, 1, 2, 2, 3, 3, 3, 3, 4, 4, 4, 4, 4, 4, 4, 4, 5, 5, 5, 5, 5, 5, 5, 5, 5, 5, 5, 5, 5, 5, 5, 5, 6, 6, 6, 6, 6, 6, 6, 6, 6, 6, 6, 6, 6, 6, 6, 6, 6, 6, 6, 6, 6, 6, 6, 6, 6, 6, 6, 6, 6, 6, 6, 6, 7, 7, 7, 7, 7, 7, 7, 7, 7, 7, 7, 7, 7, 7, 7, 7, 7, 7, 7, 7, 7, 7, 7, 7, 7, 7, 7, 7, 7, 7, 7, 7, 7, 7, 7, 7, 7, 7, 7, 7, 7, 7, 7, 7, 7, 7, 7, 7, 7, 7, 7, 7, 7, 7, 7, 7, 7, 7, 7, 7, 7, 7, 7, 7, 8, 8, 8, 8, 8, 8, 8, 8, 8, 8, 8, 8, 8, 8, 8, 8, 8, 8, 8, 8, 8, 8, 8, 8, 8, 8, 8, 8, 8, 8, 8, 8, 8, 8, 8, 8, 8, 8, 8, 8, 8, 8, 8, 8, 8, 8, 8, 8, 8, 8, 8, 8, 8, 8, 8, 8, 8, 8, 8, 8, 8, 8, 8, 8, 8, 8, 8, 8, 8, 8, 8, 8, 8, 8, 8, 8, 8, 8, 8, 8, 8, 8, 8, 8, 8, 8, 8, 8, 8, 8, 8, 8, 8, 8, 8, 8, 8, 8, 8, 8, 8, 8, 8, 8, 8, 8, 8, 8, 8, 8, 8, 8, 8, 8, 8, 8, 8, 8, 8, 8, 8, 8, 8, 8, 8, 8, 8, 8]⟩ : ByteArray) (ji10)
              replace p13 := eq_true p13
              replace q13 := eq_true q13
              go_wp2
              go_ret
              exact ⟨by first | rfl | (simp; done) | (simp only [← hji10] <;> (first | rfl | simp)) | (simp [*]; done), by repeat (first | exact Drawn0.refl _ | apply Drawn0.step)⟩
            · rw [if_neg c12] at H
              exact absurd H (by simp)
          · rw [if_neg c11] at H
            exact absurd H (by simp)
      · rw [if_neg c4] at H
        have c4b0 : decide (65536 ≤ x0_1) = false := decide_eq_false c4
        clear c4
        by_cases c14 : x0_1 ≥ 256
        · rw [if_pos c14] at H
          have c14b0 : decide (256 ≤ x0_1) = true := decide_eq_true c14
          clear c14
          obtain ⟨ji15, hji15⟩ : ∃ j_ : Int, ((x0_1 / 256) % 256) = j_ := ⟨_, rfl⟩
          replace H : (if 0 ≤ (ji15) then (if (ji15) < 256 then (some (wrap64 ((wrap64 (x2_1 + 8)) + (wrap64 (bt (⟨#[0, 1, 2, 2, 3, 3, 3, 3, 4, 4, 4, 4, 4, 4, 4, 4, 5, 5, 5, 5, 5, 5, 5, 5, 5, 5, 5, 5, 5, 5, 5, 5, 6, 6, 6, 6, 6, 6, 6, 6, 6, 6, 6, 6, 6, 6, 6, 6, 6, 6, 6, 6, 6, 6, 6, 6, 6, 6, 6, 6, 6, 6, 6, 6, 7, 7, 7, 7, 7, 7, 7, 7, 7, 7, 7, 7, 7, 7, 7, 7, 7, 7, 7, 7, 7, 7, 7, 7, 7, 7, 7, 7, 7, 7, 7, 7, 7, 7, 7, 7, 7, 7, 7, 7, 7, 7, 7, 7, 7, 7, 7, 7, 7, 7, 7, 7, 7, 7, 7, 7, 7, 7, 7, 7, 7, 7, 7, 7, 8, 8, 8, 8, 8, 8, 8, 8, 8, 8, 8, 8, 8, 8, 8, 8, 8, 8, 8, 8, 8, 8, 8, 8, 8, 8, 8, 8, 8, 8, 8, 8, 8, 8, 8, 8, 8, 8, 8, 8, 8, 8, 8, 8, 8, 8, 8, 8, 8, 8, 8, 8, 8, 8, 8, 8, 8, 8, 8, 8, 8, 8, 8, 8, 8, 8, 8, 8, 8, 8, 8, 8, 8, 8, 8, 8, 8, 8, 8, 8, 8, 8, 8, 8, 8, 8, 8, 8, 8, 8, 8, 8, 8, 8, 8, 8, 8, 8, 8, 8, 8, 8, 8, 8, 8, 8, 8, 8, 8, 8, 8, 8, 8, 8, 8, 8, 8, 8, 8, 8, 8, 8, 8, 8, 8, 8, 8, 8]⟩ : ByteArray) (ji15)))))) else (none)) else (none)) = some r := by first | (rw [hji15] at H; exact H) | (simp only [hji15] at H ⊢; exact H)
          by_cases c16 : 0 ≤ (ji15)
          · rw [if_pos c16] at H
            have c16b0 : decide (0 ≤ (ji15)) = true := decide_eq_true c16
            clear c16
            by_cases c17 : (ji15) < 256
            · rw [if_pos c17] at H
              have c17b0 : decide ((ji15) < 256) = true := decide_eq_true c17
              clear c17
              obtain rfl := Option.some.inj H
              have p18 : 0 ≤ ((ji15) : Int) := of_decide_eq_true (by first | (with_reducible assumption) | assumption)
              have q18 : (ji15) < (256 : Int) := of_decide_eq_true (by first | (with_reducible assumption) | assumption)
              have hx18 := bt_at (⟨#[0, 1, 2, 2, 3, 3, 3, 3, 4, 4, 4, 4, 4, 4, 4, 4, 5, 5, 5, 5, 5, 5, 5, 5, 5, 5, 5, 5, 5, 5, 5, 5, 6, 6, 6, 6, 6, 6, 6, 6, 6, 6, 6, 6, 6, 6, 6, 6, 6, 6, 6, 6, 6, 6, 6, 6, 6, 6, 6, 6, 6, 6, 6, 6, 7, 7, 7, 7, 7, 7, 7, 7, 7, 7, 7, 7, 7, 7, 7, 7, 7, 7, 7, 7, 7, 7, 7, 7, 7, 7, 7, 7, 7, 7, 7, 7, 7, 7, 7, 7, 7, 7, 7, 7, 7, 7, 7, 7, 7, 7, 7, 7, 7, 7, 7, 7, 7, 7, 7, 7, 7, 7, 7, 7, 7, 7, 7, 7, 8, 8, 8, 8, 8, 8, 8, 8, 8, 8, 8, 8, 8, 8, 8, 8, 8, 8, 8, 8, 8, 8, 8, 8, 8, 8, 8, 8, 8, 8, 8, 8, 8, 8, 8, 8, 8, 8, 8, 8, 8, 8, 8, 8, 8, 8, 8, 8, 8, 8, 8, 8, 8, 8, 8, 8, 8, 8, 8, 8, 8, 8, 8, 8, 8, 8, 8, 8, 8, 8, 8, 8, 8, 8, 8, 8, 8, 8, 8, 8, 8, 8, 8, 8, 8, 8, 8, 8, 8, 8, 8, 8, 8, 8, 8, 8, 8, 8, 8, 8, 8, 8, 8, 8, 8, 8, 8, 8, 8, 8, 8, 8, 8, 8, 8, 8, 8, 8, 8, 8, 8, 8, 8, 8, 8, 8, 8, 8]⟩ : ByteArray) (ji15)
              replace p18 := eq_true p18
              replace q18 := eq_true q18
              go_wp2
              go_ret
              exact ⟨by first | rfl | (simp; done) | (simp only [← hji15] <;> (first | rfl | simp)) | (simp [*]; done), by repeat (first | exact Drawn0.refl _ | apply Drawn0.step)⟩
            · rw [if_neg c17] at H
              exact absurd H (by simp)
          · rw [if_neg c16] at H
            exact absurd H (by simp)
        · rw [if_neg c14] at H
          have c14b0 : decide (256 ≤ x0_1) = false := decide_eq_false c14
          clear c14
          obtain ⟨ji19, hji19⟩ : ∃ j_ : Int, ((x0_1) % 256) = j_ := ⟨_, rfl⟩
          replace H : (if 0 ≤ (ji19) then (if (ji19) < 256 then (some (wrap64 (x2_1 + (wrap64 (bt (⟨#[0, 1, 2, 2, 3, 3, 3, 3, 4, 4, 4, 4, 4, 4, 4, 4, 5, 5, 5, 5, 5, 5, 5, 5, 5, 5, 5, 5, 5, 5, 5, 5, 6, 6, 6, 6, 6, 6, 6, 6, 6, 6, 6, 6, 6, 6, 6, 6, 6, 6, 6, 6, 6, 6, 6, 6, 6, 6, 6, 6, 6, 6, 6, 6, 7, 7, 7, 7, 7, 7, 7, 7, 7, 7, 7, 7, 7, 7, 7, 7, 7, 7, 7, 7, 7, 7, 7, 7, 7, 7, 7, 7, 7, 7, 7, 7, 7, 7, 7, 7, 7, 7, 7, 7, 7, 7, 7, 7, 7, 7, 7, 7, 7, 7, 7, 7, 7, 7, 7, 7, 7, 7, 7, 7, 7, 7, 7, 7, 8, 8, 8, 8, 8, 8, 8, 8, 8, 8, 8, 8, 8, 8, 8, 8, 8, 8, 8, 8, 8, 8, 8, 8, 8, 8, 8, 8, 8, 8, 8, 8, 8, 8, 8, 8, 8, 8, 8, 8, 8, 8, 8, 8, 8, 8, 8, 8, 8, 8, 8, 8, 8, 8, 8, 8, 8, 8, 8, 8, 8, 8, 8, 8, 8, 8, 8, 8, 8, 8, 8, 8, 8, 8, 8, 8, 8, 8, 8, 8, 8, 8, 8, 8, 8, 8, 8, 8, 8, 8, 8, 8, 8, 8, 8, 8, 8, 8, 8, 8, 8, 8, 8, 8, 8, 8, 8, 8, 8, 8, 8, 8, 8, 8, 8, 8, 8, 8, 8, 8, 8, 8, 8, 8, 8, 8, 8, 8]⟩ : ByteArray) (ji19)))))) else (none)) else (none)) = some r := by first | (rw [hji19] at H; exact H) | (simp only [hji19] at H ⊢; exact H)
          by_cases c20 : 0 ≤ (ji19)
          · rw [if_pos c20] at H
            have c20b0 : decide (0 ≤ (ji19)) = true := decide_eq_true c20
            clear c20
            by_cases c21 : (ji19) < 256
            · rw [if_pos c21] at H
              have c21b0 : decide ((ji19) < 256) = true := decide_eq_true c21
              clear c21
              obtain rfl := Option.some.inj H
              have p22 : 0 ≤ ((ji19) : Int) := of_decide_eq_true (by first | (with_reducible assumption) | assumption)
              have q22 : (ji19) < (256 : Int) := of_decide_eq_true (by first | (with_reducible assumption) | assumption)
              have hx22 := bt_at (⟨#[0, 1, 2, 2, 3, 3, 3, 3, 4, 4, 4, 4, 4, 4, 4, 4, 5, 5, 5, 5, 5, 5, 5, 5, 5, 5, 5, 5, 5, 5, 5, 5, 6, 6, 6, 6, 6, 6, 6, 6, 6, 6, 6, 6, 6, 6, 6, 6, 6, 6, 6, 6, 6, 6, 6, 6, 6, 6, 6, 6, 6, 6, 6, 6, 7, 7, 7, 7, 7, 7, 7, 7, 7, 7, 7, 7, 7, 7, 7, 7, 7, 7, 7, 7, 7, 7, 7, 7, 7, 7, 7, 7, 7, 7, 7, 7, 7, 7, 7, 7, 7, 7, 7, 7, 7, 7, 7, 7, 7, 7, 7, 7, 7, 7, 7, 7, 7, 7, 7, 7, 7, 7, 7, 7, 7, 7, 7, 7, 8, 8, 8, 8, 8, 8, 8, 8, 8, 8, 8, 8, 8, 8, 8, 8, 8, 8, 8, 8, 8, 8, 8, 8, 8, 8, 8, 8, 8, 8, 8, 8, 8, 8, 8, 8, 8, 8, 8, 8, 8, 8, 8, 8, 8, 8, 8, 8, 8, 8, 8, 8, 8, 8, 8, 8, 8, 8, 8, 8, 8, 8, 8, 8, 8, 8, 8, 8, 8, 8, 8, 8, 8, 8, 8, 8, 8, 8, 8, 8, 8, 8, 8, 8, 8, 8, 8, 8, 8, 8, 8, 8, 8, 8, 8, 8, 8, 8, 8, 8, 8, 8, 8, 8, 8, 8, 8, 8, 8, 8, 8, 8, 8, 8, 8, 8, 8, 8, 8, 8, 8, 8, 8, 8, 8, 8, 8, 8]⟩ : ByteArray) (ji19)
              replace p22 := eq_true p22
              replace q22 := eq_true q22
              go_wp2
              go_ret
              exact ⟨by first | rfl | (simp; done) | (simp only [← hji19] <;> (first | rfl | simp)) | (simp [*]; done), by repeat (first | exact Drawn0.refl _ | apply Drawn0.step)⟩
            · rw [if_neg c21] at H
              exact absurd H (by simp)
          · rw [if_neg c20] at H
            exact absurd H (by simp)
def bits_LeadingZeros64.f (k : Nat) (a0 : Int) : Option (Int) := (bits_Len64.f k a0).bind fun t250 => (some (wrap64 (64 - t250)))
theorem bits_LeadingZeros64.mono : ∀ a0 k, LeO (bits_LeadingZeros64.f k a0) (bits_LeadingZeros64.f (k + 1) a0) := by
  intro a0 k
  unfold bits_LeadingZeros64.f
  repeat' first
      | (with_reducible exact bits_Len64.mono _ _)
      | (with_reducible exact LeO.refl _)
      | (with_reducible exact LeO.none _)
      | (with_reducible refine LeO.ite ?_ ?_)
      | (with_reducible refine LeO.bind ?_ (fun _ => ?_))
      | exact bits_Len64.mono _ _
      | exact LeO.none _
      | refine LeO.ite ?_ ?_
      | refine LeO.bind ?_ (fun _ => ?_)
set_option maxHeartbeats 8000000 in
set_option maxRecDepth 100000 in
theorem bits_LeadingZeros64.calls (k : Nat) (a0 : Int) (r : Int) (w : World) (h : bits_LeadingZeros64.f k a0 = some r) :
    Calls Try.prog 70 #[.int .u64 a0] w fun e w' => e = .returned (.int .i64 r) ∧ Drawn0 w w' := by
  have H : ((bits_Len64.f k a0).bind fun t250 => (some (wrap64 (64 - t250)))) = some r := h
  clear h
  replace H := Option.bind_eq_some_iff.mp H
  obtain ⟨t250, A20, H⟩ := H
  replace H : (some (wrap64 (64 - t250))) = some r := H
  have A2 := Aside0.mk A20
  clear A20
  obtain rfl := Option.some.inj H
  go_enter Try.func70, Try.ntmps70
  go_wp2_with (first | ((with_reducible refine gate_callee (f := 71) rfl ?_); refine goesL_ (some 4) rfl rfl Try.func71 (by kernel_rfl) rfl #[.int .u64 a0] rfl (by (try simp only [List.map_toArray, List.map_cons, List.map_nil]); first | done | rfl | (simp only [List.length_drop, List.length_take]; rfl)) ?_; (with_reducible refine (bits_Len64.calls k a0 t250 _ A2.out).mono ?_); rintro e w' ⟨rfl, ⟨nd, rfl⟩⟩; refine ⟨_, rfl, ?_⟩))
  go_ret
  exact ⟨by first | rfl | (simp; done) | (simp [*]; done), by repeat (first | exact Drawn0.refl _ | apply Drawn0.step)⟩
end Go.Proofs.Ytkongoedgngfhaa.P
