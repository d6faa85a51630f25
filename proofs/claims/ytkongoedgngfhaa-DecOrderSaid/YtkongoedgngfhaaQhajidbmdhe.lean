-- Written by a program of the session (a print of the seat's translation, functions given by hand among it). Lean checks it.
import Derived.Test.YtkongoedgngfhaaQbhmfdgmibf
import Derived.Test.YtkongoedgngfhaaQjpnkaempnn
namespace Go.Proofs.Ytkongoedgngfhaa.P
open Go.RowKit Go.Proofs.YtkongoedgngfhaaW.PrintWords Go.Proofs.YtkongoedgngfhaaW.PrintLast Go.Proofs.YtkongoedgngfhaaW.PrintMore
open Go.Proofs.Ytkongoedgngfhaa.A
attribute [local go_sem] max2_int min2_int max_two min_two max_three min_three max_four min_four   -- for this text's walks alone
set_option linter.unusedVariables false
set_option linter.unusedSimpArgs false
def num_Sub.f (a0 : Int) (a1 : Int) : Option (Int × Int) := if ((decide ((wrap64 (a0 - a1)) < a0)) != (decide (a1 > 0))) = true then (some (0, 10)) else (some (wrap64 (a0 - a1), 0))
set_option maxHeartbeats 8000000 in
set_option maxRecDepth 100000 in
theorem num_Sub.calls (a0 : Int) (a1 : Int) (r1 : Int) (r2 : Int) (w : World) (h : num_Sub.f a0 a1 = some (r1, r2)) :
    Calls Try.prog 33 #[.int .i64 a0, .int .i64 a1] w fun e w' => e = .returned (.tuple #[.int .i64 r1, .int .i64 r2]) ∧ Drawn0 w w' := by
  have H : (if ((decide ((wrap64 (a0 - a1)) < a0)) != (decide (a1 > 0))) = true then (some (0, 10)) else (some (wrap64 (a0 - a1), 0))) = some (r1, r2) := h
  clear h
  by_cases c3 : ((decide ((wrap64 (a0 - a1)) < a0)) != (decide (a1 > 0))) = true
  · rw [if_pos c3] at H
    have c3b0 : ((decide ((wrap64 (a0 - a1)) < a0)) != (decide (a1 > 0))) = true := c3
    (try (have c3b1 : decide ((decide ((wrap64 (a0 - a1)) < a0)) = (decide (a1 > 0))) = false := by simpa using c3))
    (try (have c3b2 : ((decide ((wrap64 (a0 - a1)) < a0)) == (decide (a1 > 0))) = false := by simpa using c3))
    (try (have c3b3 : ¬ ((decide ((wrap64 (a0 - a1)) < a0)) = (decide (a1 > 0))) := by simpa using c3))
    clear c3
    simp only [Option.some.injEq, Prod.mk.injEq] at H
    obtain ⟨rfl, rfl⟩ := H
    go_enter Try.func33, Try.ntmps33
    go_wp2
    go_ret2
    exact ⟨by first | rfl | (simp; done) | (simp [*]; done), by repeat (first | exact Drawn0.refl _ | apply Drawn0.step)⟩
  · rw [if_neg c3] at H
    have c3b0 : ((decide ((wrap64 (a0 - a1)) < a0)) != (decide (a1 > 0))) = false := by simpa using c3
    (try (have c3b1 : decide ((decide ((wrap64 (a0 - a1)) < a0)) = (decide (a1 > 0))) = true := by simpa using c3))
    (try (have c3b2 : ((decide ((wrap64 (a0 - a1)) < a0)) == (decide (a1 > 0))) = true := by simpa using c3))
    clear c3
    simp only [Option.some.injEq, Prod.mk.injEq] at H
    obtain ⟨rfl, rfl⟩ := H
    go_enter Try.func33, Try.ntmps33
    go_wp2
    go_ret2
    exact ⟨by first | rfl | (simp; done) | (simp [*]; done), by repeat (first | exact Drawn0.refl _ | apply Drawn0.step)⟩
def num_Neg.f (a0 : Int) : Option (Int × Int) := (num_Sub.f 0 a0).bind fun bt114 => (some (bt114.1, bt114.2))
set_option maxHeartbeats 8000000 in
set_option maxRecDepth 100000 in
theorem num_Neg.calls (a0 : Int) (r1 : Int) (r2 : Int) (w : World) (h : num_Neg.f a0 = some (r1, r2)) :
    Calls Try.prog 34 #[.int .i64 a0] w fun e w' => e = .returned (.tuple #[.int .i64 r1, .int .i64 r2]) ∧ Drawn0 w w' := by
  have H : ((num_Sub.f 0 a0).bind fun bt114 => (some (bt114.1, bt114.2))) = some (r1, r2) := h
  clear h
  replace H := Option.bind_eq_some_iff.mp H
  obtain ⟨⟨t114, t115⟩, A20, H⟩ := H
  replace H : (some (t114, t115)) = some (r1, r2) := H
  have A2 := Aside0.mk A20
  clear A20
  simp only [Option.some.injEq, Prod.mk.injEq] at H
  obtain ⟨rfl, rfl⟩ := H
  go_enter Try.func34, Try.ntmps34
  go_wp2_with (first | ((with_reducible refine gate_callee (f := 33) rfl ?_); refine goesL_ (some 5) rfl rfl Try.func33 (by kernel_rfl) rfl #[.int .i64 0, .int .i64 a0] rfl (by (try simp only [List.map_toArray, List.map_cons, List.map_nil]); first | done | rfl | (simp only [List.length_drop, List.length_take]; rfl)) ?_; (with_reducible refine (num_Sub.calls 0 a0 t114 t115 _ A2.out).mono ?_); rintro e w' ⟨rfl, ⟨nd, rfl⟩⟩; refine ⟨_, rfl, ?_⟩))
  go_ret2
  exact ⟨by first | rfl | (simp; done) | (simp [*]; done), by repeat (first | exact Drawn0.refl _ | apply Drawn0.step)⟩
def dec_made.f (a0 : Int) (a1 : Int) (a2 : Int) : Option (Int × Int × Int) := if a2 = 0 then (some (a0, a1, 0)) else (some (0, 0, a2))
set_option maxRecDepth 100000 in
theorem dec_made.vc (a0 : Int) (a1 : Int) (a2 : Int) (K : AV → Prop) : afv PA Try.prog (tab []) noLoops 2 35 [.int .i64 a0, .int .i64 a1, .int .i64 a2] K = (brc (a2 != 0) (K (AV.tup [AV.agg [AV.int IntKind.i64 0, AV.int IntKind.i64 0], AV.int IntKind.i64 a2])) (K (AV.tup [AV.agg [AV.int IntKind.i64 a0, AV.int IntKind.i64 a1], AV.int IntKind.i64 0]))) := by kernel_rfl
set_option maxHeartbeats 1000000 in
set_option maxRecDepth 100000 in
theorem dec_made.calls (a0 : Int) (a1 : Int) (a2 : Int) (r1 : Int) (r2 : Int) (r3 : Int) (w : World) (h : dec_made.f a0 a1 a2 = some (r1, r2, r3)) :
    Calls Try.prog 35 #[.int .i64 a0, .int .i64 a1, .int .i64 a2] w fun e w' => e = .returned (.tuple #[.agg #[.int .i64 r1, .int .i64 r2], .int .i64 r3]) ∧ Below w.heap.size w w' := by
  refine calls_of_vc (A := [.int .i64 a0, .int .i64 a1, .int .i64 a2]) (v := .tup [.agg [.int .i64 r1, .int .i64 r2], .int .i64 r3]) (tab_nil) ((dec_made.vc a0 a1 a2 _).mpr ?_) (by simp [rl_cons, rl_nil, rv_int, rv_bool, rv_str, rv_agg, rv_fn]) (fun ρ V' hV => by simpa [rl_cons, rl_nil, rv_int, rv_bool, rv_str, rv_agg, rv_tup] using hV)
  unfold dec_made.f at h
  (try simp only [bne, Option.bind_eq_some_iff, ite_some_iff] at h)
  (try simp only [bne, brc_iff, wrap_i64])
  first
    | grind (splits := 60) [gd_some]
    | ((repeat' (first | (have or_ : Or _ _ := h; clear or_; rcases h with h | h) | (have or_ : Exists _ := h; clear or_; obtain ⟨_, h⟩ := h) | (have or_ : And _ _ := h; clear or_; obtain ⟨hq_, h⟩ := h))) <;> (try simp only [Option.some.injEq, Prod.mk.injEq, reduceCtorEq] at h) <;> (try subst_vars) <;> first | (simp_all [gd_some] <;> (try omega) <;> done) | grind (splits := 60) [gd_some])
    | (intros; subst_vars; simp_all [gd_some]; done)
def dec_Read.f (a0 : ByteArray) : Option (Int × Int × Int) := if a0 = ⟨#[49, 50, 46, 51, 52, 48]⟩ then some (12340, 3, 0) else none
set_option maxHeartbeats 8000000 in
set_option maxRecDepth 100000 in
theorem dec_Read.at12 (w : World) :
    Calls Try.prog 11 #[.string ⟨#[49, 50, 46, 51, 52, 48]⟩] w fun e w' => e = .returned (.tuple #[.agg #[.int .i64 12340, .int .i64 3], .int .i64 0]) ∧ Below w.heap.size w w' := by
  have hu25 := Try.underlying25
  have HB := Aside0.mk (Below.refl w.heap.size w)
  have hn : ((((⟨#[49, 50, 46, 51, 52, 48]⟩ : ByteArray)[0]'(by decide)).toNat : Int) == 45) = false := by decide
  have hp : ((((⟨#[49, 50, 46, 51, 52, 48]⟩ : ByteArray)[0]'(by decide)).toNat : Int) == 43) = false := by decide
  go_enter Try.func11, Try.ntmps11
  go_wp2
  obtain ⟨g2, hg2⟩ : ∃ g, w.heap.size = g := ⟨_, rfl⟩
  obtain ⟨g5, hg5⟩ : ∃ g, w.heap.size + 1 = g := ⟨_, rfl⟩
  obtain ⟨gI, hgI⟩ : ∃ g, w.heap.size + 1 + 1 = g := ⟨_, rfl⟩
  have GE2 : Aside0 (w.heap.size ≤ g2) := ⟨by omega⟩
  have GE5 : Aside0 (w.heap.size ≤ g5) := ⟨by omega⟩
  have GEI : Aside0 (w.heap.size ≤ gI) := ⟨by omega⟩
  have N2I : Aside0 (g2 ≠ gI) := ⟨by omega⟩
  have N5I : Aside0 (g5 ≠ gI) := ⟨by omega⟩
  have N5I_ : Aside0 (gI ≠ g5) := ⟨by omega⟩
  have N25 : Aside0 (g2 ≠ g5) := ⟨by omega⟩
  have N25_ : Aside0 (g5 ≠ g2) := ⟨by omega⟩
  rw [hgI, hg5, hg2]
  go_loopg [6, 7, 8] 7 (fun q v6 v7 v8 wr => Aside0 (Below w.heap.size w wr) ∧ Aside0 (wr.heap[g2]? = some (.cells #[.int .i64 0, .int .i64 0] 25 (0, 0))) ∧
    ((Aside0 (q = 7) ∧ v6 = .int .i64 0 ∧ v7 = .bool false ∧ v8 = .int .i64 0 ∧ Aside0 (wr.heap[g5]? = some (.cells #[.int .i64 0, .int .i64 0] 25 (0, 0))) ∧ Aside0 (wr.heap[gI]? = some (.stringIter ⟨#[49, 50, 46, 51, 52, 48]⟩ 0))) ∨
     (Aside0 (q = 6) ∧ v6 = .int .i64 1 ∧ v7 = .bool false ∧ v8 = .int .i64 0 ∧ Aside0 (wr.heap[g5]? = some (.cells #[.int .i64 (-1), .int .i64 0] 25 (0, 0))) ∧ Aside0 (wr.heap[gI]? = some (.stringIter ⟨#[49, 50, 46, 51, 52, 48]⟩ 1))) ∨
     (Aside0 (q = 5) ∧ v6 = .int .i64 2 ∧ v7 = .bool false ∧ v8 = .int .i64 0 ∧ Aside0 (wr.heap[g5]? = some (.cells #[.int .i64 (-12), .int .i64 0] 25 (0, 0))) ∧ Aside0 (wr.heap[gI]? = some (.stringIter ⟨#[49, 50, 46, 51, 52, 48]⟩ 2))) ∨
     (Aside0 (q = 4) ∧ v6 = .int .i64 2 ∧ v7 = .bool true ∧ v8 = .int .i64 0 ∧ Aside0 (wr.heap[g5]? = some (.cells #[.int .i64 (-12), .int .i64 0] 25 (0, 0))) ∧ Aside0 (wr.heap[gI]? = some (.stringIter ⟨#[49, 50, 46, 51, 52, 48]⟩ 3))) ∨
     (Aside0 (q = 3) ∧ v6 = .int .i64 3 ∧ v7 = .bool true ∧ v8 = .int .i64 0 ∧ Aside0 (wr.heap[g5]? = some (.cells #[.int .i64 (-123), .int .i64 1] 25 (0, 0))) ∧ Aside0 (wr.heap[gI]? = some (.stringIter ⟨#[49, 50, 46, 51, 52, 48]⟩ 4))) ∨
     (Aside0 (q = 2) ∧ v6 = .int .i64 4 ∧ v7 = .bool true ∧ v8 = .int .i64 0 ∧ Aside0 (wr.heap[g5]? = some (.cells #[.int .i64 (-1234), .int .i64 2] 25 (0, 0))) ∧ Aside0 (wr.heap[gI]? = some (.stringIter ⟨#[49, 50, 46, 51, 52, 48]⟩ 5))) ∨
     (Aside0 (q = 1) ∧ v6 = .int .i64 5 ∧ v7 = .bool true ∧ v8 = .int .i64 0 ∧ Aside0 (wr.heap[g5]? = some (.cells #[.int .i64 (-12340), .int .i64 3] 25 (0, 0))) ∧ Aside0 (wr.heap[gI]? = some (.stringIter ⟨#[49, 50, 46, 51, 52, 48]⟩ 6)))))
  case atStart =>
    have e1 : ∀ o : Obj, (w.alloc o).heap.size = w.heap.size + 1 := fun o => by show (w.heap.push o).size = _; rw [Array.size_push]
    have e2 : ∀ o o2 : Obj, ((w.alloc o).alloc o2).heap.size = w.heap.size + 1 + 1 := fun o o2 => by show ((w.heap.push o).push o2).size = _; rw [Array.size_push, Array.size_push]
    refine ⟨⟨below_alloc (below_alloc (below_alloc HB.out _) _) _⟩, ⟨?_⟩, .inl ⟨⟨rfl⟩, rfl, rfl, rfl, ⟨?_⟩, ⟨?_⟩⟩⟩
    · rw [← hg2]
      exact blk_alloc (blk_alloc (blk_new w _) _) _
    · rw [← hg5, ← e1 (.cells #[.int .i64 0, .int .i64 0] 25 (0, 0))]
      exact blk_alloc (blk_new (w.alloc _) _) _
    · rw [← hgI, ← e2 (.cells #[.int .i64 0, .int .i64 0] 25 (0, 0)) (.cells #[.int .i64 0, .int .i64 0] 25 (0, 0))]
      exact World.iter_heap _ _ _
  case round =>
    obtain ⟨HB, BK2, h⟩ := hrel
    rcases h with ⟨hq, rfl, rfl, rfl, BK5, HI⟩ | ⟨hq, rfl, rfl, rfl, BK5, HI⟩ | ⟨hq, rfl, rfl, rfl, BK5, HI⟩ | ⟨hq, rfl, rfl, rfl, BK5, HI⟩ | ⟨hq, rfl, rfl, rfl, BK5, HI⟩ | ⟨hq, rfl, rfl, rfl, BK5, HI⟩ | ⟨hq, rfl, rfl, rfl, BK5, HI⟩
    · have hnx : ∀ ty, (Instr.next (.pointer (some ⟨gI, 0, none⟩)) true ty).run Try.prog wr = .ok (.tuple #[.bool true, .int .i64 0, .int .i32 49]) (wr.iterAt gI ⟨#[49, 50, 46, 51, 52, 48]⟩ 1) := fun ty => (Lib.run_next_any_at wr gI ⟨#[49, 50, 46, 51, 52, 48]⟩ 0 ty HI.out (by decide)).trans (by rfl)
      have HI2 : Aside0 ((wr.iterAt gI ⟨#[49, 50, 46, 51, 52, 48]⟩ 1).heap[gI]? = some (.stringIter ⟨#[49, 50, 46, 51, 52, 48]⟩ 1)) := ⟨Lib.iterAt_heap wr gI ⟨#[49, 50, 46, 51, 52, 48]⟩ 0 1 HI.out⟩
      have HB2 : Aside0 (Below w.heap.size w (wr.iterAt gI ⟨#[49, 50, 46, 51, 52, 48]⟩ 1)) := ⟨Lib.below_iterAt HB.out GEI.out ⟨#[49, 50, 46, 51, 52, 48]⟩ 1⟩
      have BK22 : Aside0 ((wr.iterAt gI ⟨#[49, 50, 46, 51, 52, 48]⟩ 1).heap[g2]? = some (.cells #[.int .i64 0, .int .i64 0] 25 (0, 0))) := ⟨(Lib.iterAt_other wr gI g2 ⟨#[49, 50, 46, 51, 52, 48]⟩ 1 N2I.out).trans BK2.out⟩
      have BK52 : Aside0 ((wr.iterAt gI ⟨#[49, 50, 46, 51, 52, 48]⟩ 1).heap[g5]? = some (.cells #[.int .i64 0, .int .i64 0] 25 (0, 0))) := ⟨(Lib.iterAt_other wr gI g5 ⟨#[49, 50, 46, 51, 52, 48]⟩ 1 N5I.out).trans BK5.out⟩
      clear HI HB BK2 BK5
      have HI := HI2
      have HB := HB2
      have BK2 := BK22
      have BK5 := BK52
      clear HI2 HB2 BK22 BK52
      generalize wr.iterAt gI ⟨#[49, 50, 46, 51, 52, 48]⟩ 1 = w1 at *
      have hcz1_0 : w1.cell? ⟨g5, 0, none⟩ = some (.int .i64 0) := (blk_cell BK5.out 0).trans rfl; have hcz1_1 : w1.cell? ⟨g5, 1, none⟩ = some (.int .i64 0) := (blk_cell BK5.out 1).trans rfl; have hfz1_0 := kA BK5.out 0; have hfz1_1 := kA BK5.out 1
      go_wp2_with (first | (go_at_call 32; (with_reducible refine (num_Mul.calls 3 0 10 0 0 _ (by decide +kernel)).mono ?_); rintro e_ w2 ⟨rfl, hb⟩; have n0_ := Aside0.mk (below_step (by repeat (first | (with_reducible first | exact HB.out | apply below_alloc | apply kB | apply below_drew1 | refine below_set ?_ GE2.out | refine below_set ?_ GE5.out) | exact HB.out)) hb); have n1_ := Aside0.mk (blk_below (g := g2) (o := .cells #[.int .i64 0, .int .i64 0] 25 (0, 0)) (by exact BK2.out) hb); have n2_ := Aside0.mk (blk_below (g := g5) (o := .cells #[.int .i64 0, .int .i64 0] 25 (0, 0)) (by exact BK5.out) hb); have n3_ := Aside0.mk (blk_below (g := gI) (o := .stringIter ⟨#[49, 50, 46, 51, 52, 48]⟩ 1) (by exact HI.out) hb); clear HB BK2 BK5 HI; have HB := n0_; have BK2 := n1_; have BK5 := n2_; have HI := n3_; clear n0_ n1_ n2_ n3_ hb; have hcz2_0 : w2.cell? ⟨g5, 0, none⟩ = some (.int .i64 0) := (blk_cell BK5.out 0).trans rfl; have hcz2_1 : w2.cell? ⟨g5, 1, none⟩ = some (.int .i64 0) := (blk_cell BK5.out 1).trans rfl; have hfz2_0 := kA BK5.out 0; have hfz2_1 := kA BK5.out 1) | (go_at_call 33; (with_reducible refine (num_Sub.calls 0 1 (-1) 0 _ (by decide +kernel)).mono ?_); rintro e_ w3 ⟨rfl, ⟨nd, rfl⟩⟩))
      go_roundg 6
      case measure => have := hq.out; omega
      case rel => exact ⟨⟨by repeat (first | (with_reducible first | exact HB.out | apply below_alloc | apply kB | apply below_drew1 | refine below_set ?_ GE2.out | refine below_set ?_ GE5.out) | exact HB.out)⟩, ⟨blk_far (blk_drewN (blk_far BK2.out N25.out _) _) N25.out _⟩, .inr (.inl ⟨⟨rfl⟩, rfl, rfl, rfl, ⟨blk_put (cs := #[.int .i64 0, .int .i64 0]) (blk_drewN (blk_put (cs := #[.int .i64 0, .int .i64 0]) BK5.out 0 _ rfl) _) 0 _ rfl⟩, ⟨(Below.heap_setCell _ _ _ _ N5I_.out).trans (show _ = _ from (Below.heap_setCell _ _ _ _ N5I_.out).trans HI.out)⟩⟩)⟩
    · have hnx : ∀ ty, (Instr.next (.pointer (some ⟨gI, 0, none⟩)) true ty).run Try.prog wr = .ok (.tuple #[.bool true, .int .i64 1, .int .i32 50]) (wr.iterAt gI ⟨#[49, 50, 46, 51, 52, 48]⟩ 2) := fun ty => (Lib.run_next_any_at wr gI ⟨#[49, 50, 46, 51, 52, 48]⟩ 1 ty HI.out (by decide)).trans (by rfl)
      have HI2 : Aside0 ((wr.iterAt gI ⟨#[49, 50, 46, 51, 52, 48]⟩ 2).heap[gI]? = some (.stringIter ⟨#[49, 50, 46, 51, 52, 48]⟩ 2)) := ⟨Lib.iterAt_heap wr gI ⟨#[49, 50, 46, 51, 52, 48]⟩ 1 2 HI.out⟩
      have HB2 : Aside0 (Below w.heap.size w (wr.iterAt gI ⟨#[49, 50, 46, 51, 52, 48]⟩ 2)) := ⟨Lib.below_iterAt HB.out GEI.out ⟨#[49, 50, 46, 51, 52, 48]⟩ 2⟩
      have BK22 : Aside0 ((wr.iterAt gI ⟨#[49, 50, 46, 51, 52, 48]⟩ 2).heap[g2]? = some (.cells #[.int .i64 0, .int .i64 0] 25 (0, 0))) := ⟨(Lib.iterAt_other wr gI g2 ⟨#[49, 50, 46, 51, 52, 48]⟩ 2 N2I.out).trans BK2.out⟩
      have BK52 : Aside0 ((wr.iterAt gI ⟨#[49, 50, 46, 51, 52, 48]⟩ 2).heap[g5]? = some (.cells #[.int .i64 (-1), .int .i64 0] 25 (0, 0))) := ⟨(Lib.iterAt_other wr gI g5 ⟨#[49, 50, 46, 51, 52, 48]⟩ 2 N5I.out).trans BK5.out⟩
      clear HI HB BK2 BK5
      have HI := HI2
      have HB := HB2
      have BK2 := BK22
      have BK5 := BK52
      clear HI2 HB2 BK22 BK52
      generalize wr.iterAt gI ⟨#[49, 50, 46, 51, 52, 48]⟩ 2 = w1 at *
      have hcz1_0 : w1.cell? ⟨g5, 0, none⟩ = some (.int .i64 (-1)) := (blk_cell BK5.out 0).trans rfl; have hcz1_1 : w1.cell? ⟨g5, 1, none⟩ = some (.int .i64 0) := (blk_cell BK5.out 1).trans rfl; have hfz1_0 := kA BK5.out 0; have hfz1_1 := kA BK5.out 1
      go_wp2_with (first | (go_at_call 32; (with_reducible refine (num_Mul.calls 3 (-1) 10 (-10) 0 _ (by decide +kernel)).mono ?_); rintro e_ w2 ⟨rfl, hb⟩; have n0_ := Aside0.mk (below_step (by repeat (first | (with_reducible first | exact HB.out | apply below_alloc | apply kB | apply below_drew1 | refine below_set ?_ GE2.out | refine below_set ?_ GE5.out) | exact HB.out)) hb); have n1_ := Aside0.mk (blk_below (g := g2) (o := .cells #[.int .i64 0, .int .i64 0] 25 (0, 0)) (by exact BK2.out) hb); have n2_ := Aside0.mk (blk_below (g := g5) (o := .cells #[.int .i64 (-1), .int .i64 0] 25 (0, 0)) (by exact BK5.out) hb); have n3_ := Aside0.mk (blk_below (g := gI) (o := .stringIter ⟨#[49, 50, 46, 51, 52, 48]⟩ 2) (by exact HI.out) hb); clear HB BK2 BK5 HI; have HB := n0_; have BK2 := n1_; have BK5 := n2_; have HI := n3_; clear n0_ n1_ n2_ n3_ hb; have hcz2_0 : w2.cell? ⟨g5, 0, none⟩ = some (.int .i64 (-1)) := (blk_cell BK5.out 0).trans rfl; have hcz2_1 : w2.cell? ⟨g5, 1, none⟩ = some (.int .i64 0) := (blk_cell BK5.out 1).trans rfl; have hfz2_0 := kA BK5.out 0; have hfz2_1 := kA BK5.out 1) | (go_at_call 33; (with_reducible refine (num_Sub.calls (-10) 2 (-12) 0 _ (by decide +kernel)).mono ?_); rintro e_ w3 ⟨rfl, ⟨nd, rfl⟩⟩))
      go_roundg 5
      case measure => have := hq.out; omega
      case rel => exact ⟨⟨by repeat (first | (with_reducible first | exact HB.out | apply below_alloc | apply kB | apply below_drew1 | refine below_set ?_ GE2.out | refine below_set ?_ GE5.out) | exact HB.out)⟩, ⟨blk_far (blk_drewN (blk_far BK2.out N25.out _) _) N25.out _⟩, .inr (.inr (.inl ⟨⟨rfl⟩, rfl, rfl, rfl, ⟨blk_put (cs := #[.int .i64 (-10), .int .i64 0]) (blk_drewN (blk_put (cs := #[.int .i64 (-1), .int .i64 0]) BK5.out 0 _ rfl) _) 0 _ rfl⟩, ⟨(Below.heap_setCell _ _ _ _ N5I_.out).trans (show _ = _ from (Below.heap_setCell _ _ _ _ N5I_.out).trans HI.out)⟩⟩))⟩
    · have hnx : ∀ ty, (Instr.next (.pointer (some ⟨gI, 0, none⟩)) true ty).run Try.prog wr = .ok (.tuple #[.bool true, .int .i64 2, .int .i32 46]) (wr.iterAt gI ⟨#[49, 50, 46, 51, 52, 48]⟩ 3) := fun ty => (Lib.run_next_any_at wr gI ⟨#[49, 50, 46, 51, 52, 48]⟩ 2 ty HI.out (by decide)).trans (by rfl)
      have HI2 : Aside0 ((wr.iterAt gI ⟨#[49, 50, 46, 51, 52, 48]⟩ 3).heap[gI]? = some (.stringIter ⟨#[49, 50, 46, 51, 52, 48]⟩ 3)) := ⟨Lib.iterAt_heap wr gI ⟨#[49, 50, 46, 51, 52, 48]⟩ 2 3 HI.out⟩
      have HB2 : Aside0 (Below w.heap.size w (wr.iterAt gI ⟨#[49, 50, 46, 51, 52, 48]⟩ 3)) := ⟨Lib.below_iterAt HB.out GEI.out ⟨#[49, 50, 46, 51, 52, 48]⟩ 3⟩
      have BK22 : Aside0 ((wr.iterAt gI ⟨#[49, 50, 46, 51, 52, 48]⟩ 3).heap[g2]? = some (.cells #[.int .i64 0, .int .i64 0] 25 (0, 0))) := ⟨(Lib.iterAt_other wr gI g2 ⟨#[49, 50, 46, 51, 52, 48]⟩ 3 N2I.out).trans BK2.out⟩
      have BK52 : Aside0 ((wr.iterAt gI ⟨#[49, 50, 46, 51, 52, 48]⟩ 3).heap[g5]? = some (.cells #[.int .i64 (-12), .int .i64 0] 25 (0, 0))) := ⟨(Lib.iterAt_other wr gI g5 ⟨#[49, 50, 46, 51, 52, 48]⟩ 3 N5I.out).trans BK5.out⟩
      clear HI HB BK2 BK5
      have HI := HI2
      have HB := HB2
      have BK2 := BK22
      have BK5 := BK52
      clear HI2 HB2 BK22 BK52
      generalize wr.iterAt gI ⟨#[49, 50, 46, 51, 52, 48]⟩ 3 = w1 at *
      have hcz1_0 : w1.cell? ⟨g5, 0, none⟩ = some (.int .i64 (-12)) := (blk_cell BK5.out 0).trans rfl; have hcz1_1 : w1.cell? ⟨g5, 1, none⟩ = some (.int .i64 0) := (blk_cell BK5.out 1).trans rfl; have hfz1_0 := kA BK5.out 0; have hfz1_1 := kA BK5.out 1
      go_wp2
      go_roundg 4
      case measure => have := hq.out; omega
      case rel => exact ⟨⟨HB.out⟩, ⟨BK2.out⟩, .inr (.inr (.inr (.inl ⟨⟨rfl⟩, rfl, rfl, rfl, ⟨BK5.out⟩, ⟨HI.out⟩⟩)))⟩
    · have hnx : ∀ ty, (Instr.next (.pointer (some ⟨gI, 0, none⟩)) true ty).run Try.prog wr = .ok (.tuple #[.bool true, .int .i64 3, .int .i32 51]) (wr.iterAt gI ⟨#[49, 50, 46, 51, 52, 48]⟩ 4) := fun ty => (Lib.run_next_any_at wr gI ⟨#[49, 50, 46, 51, 52, 48]⟩ 3 ty HI.out (by decide)).trans (by rfl)
      have HI2 : Aside0 ((wr.iterAt gI ⟨#[49, 50, 46, 51, 52, 48]⟩ 4).heap[gI]? = some (.stringIter ⟨#[49, 50, 46, 51, 52, 48]⟩ 4)) := ⟨Lib.iterAt_heap wr gI ⟨#[49, 50, 46, 51, 52, 48]⟩ 3 4 HI.out⟩
      have HB2 : Aside0 (Below w.heap.size w (wr.iterAt gI ⟨#[49, 50, 46, 51, 52, 48]⟩ 4)) := ⟨Lib.below_iterAt HB.out GEI.out ⟨#[49, 50, 46, 51, 52, 48]⟩ 4⟩
      have BK22 : Aside0 ((wr.iterAt gI ⟨#[49, 50, 46, 51, 52, 48]⟩ 4).heap[g2]? = some (.cells #[.int .i64 0, .int .i64 0] 25 (0, 0))) := ⟨(Lib.iterAt_other wr gI g2 ⟨#[49, 50, 46, 51, 52, 48]⟩ 4 N2I.out).trans BK2.out⟩
      have BK52 : Aside0 ((wr.iterAt gI ⟨#[49, 50, 46, 51, 52, 48]⟩ 4).heap[g5]? = some (.cells #[.int .i64 (-12), .int .i64 0] 25 (0, 0))) := ⟨(Lib.iterAt_other wr gI g5 ⟨#[49, 50, 46, 51, 52, 48]⟩ 4 N5I.out).trans BK5.out⟩
      clear HI HB BK2 BK5
      have HI := HI2
      have HB := HB2
      have BK2 := BK22
      have BK5 := BK52
      clear HI2 HB2 BK22 BK52
      generalize wr.iterAt gI ⟨#[49, 50, 46, 51, 52, 48]⟩ 4 = w1 at *
      have hcz1_0 : w1.cell? ⟨g5, 0, none⟩ = some (.int .i64 (-12)) := (blk_cell BK5.out 0).trans rfl; have hcz1_1 : w1.cell? ⟨g5, 1, none⟩ = some (.int .i64 0) := (blk_cell BK5.out 1).trans rfl; have hfz1_0 := kA BK5.out 0; have hfz1_1 := kA BK5.out 1
      go_wp2_with (first | (go_at_call 32; (with_reducible refine (num_Mul.calls 3 (-12) 10 (-120) 0 _ (by decide +kernel)).mono ?_); rintro e_ w2 ⟨rfl, hb⟩; have n0_ := Aside0.mk (below_step (by repeat (first | (with_reducible first | exact HB.out | apply below_alloc | apply kB | apply below_drew1 | refine below_set ?_ GE2.out | refine below_set ?_ GE5.out) | exact HB.out)) hb); have n1_ := Aside0.mk (blk_below (g := g2) (o := .cells #[.int .i64 0, .int .i64 0] 25 (0, 0)) (by refine blk_far ?_ N25.out _; exact BK2.out) hb); have n2_ := Aside0.mk (blk_below (g := g5) (o := .cells #[.int .i64 (-12), .int .i64 1] 25 (0, 0)) (by refine blk_put (cs := #[.int .i64 (-12), .int .i64 0]) ?_ 1 _ rfl; exact BK5.out) hb); have n3_ := Aside0.mk (blk_below (g := gI) (o := .stringIter ⟨#[49, 50, 46, 51, 52, 48]⟩ 4) (by rw [Below.heap_setCell _ _ _ _ N5I_.out]; exact HI.out) hb); clear HB BK2 BK5 HI; have HB := n0_; have BK2 := n1_; have BK5 := n2_; have HI := n3_; clear n0_ n1_ n2_ n3_ hb; have hcz2_0 : w2.cell? ⟨g5, 0, none⟩ = some (.int .i64 (-12)) := (blk_cell BK5.out 0).trans rfl; have hcz2_1 : w2.cell? ⟨g5, 1, none⟩ = some (.int .i64 1) := (blk_cell BK5.out 1).trans rfl; have hfz2_0 := kA BK5.out 0; have hfz2_1 := kA BK5.out 1) | (go_at_call 33; (with_reducible refine (num_Sub.calls (-120) 3 (-123) 0 _ (by decide +kernel)).mono ?_); rintro e_ w3 ⟨rfl, ⟨nd, rfl⟩⟩))
      go_roundg 3
      case measure => have := hq.out; omega
      case rel => exact ⟨⟨by repeat (first | (with_reducible first | exact HB.out | apply below_alloc | apply kB | apply below_drew1 | refine below_set ?_ GE2.out | refine below_set ?_ GE5.out) | exact HB.out)⟩, ⟨blk_far (blk_drewN (blk_far BK2.out N25.out _) _) N25.out _⟩, .inr (.inr (.inr (.inr (.inl ⟨⟨rfl⟩, rfl, rfl, rfl, ⟨blk_put (cs := #[.int .i64 (-120), .int .i64 1]) (blk_drewN (blk_put (cs := #[.int .i64 (-12), .int .i64 1]) BK5.out 0 _ rfl) _) 0 _ rfl⟩, ⟨(Below.heap_setCell _ _ _ _ N5I_.out).trans (show _ = _ from (Below.heap_setCell _ _ _ _ N5I_.out).trans HI.out)⟩⟩))))⟩
    · have hnx : ∀ ty, (Instr.next (.pointer (some ⟨gI, 0, none⟩)) true ty).run Try.prog wr = .ok (.tuple #[.bool true, .int .i64 4, .int .i32 52]) (wr.iterAt gI ⟨#[49, 50, 46, 51, 52, 48]⟩ 5) := fun ty => (Lib.run_next_any_at wr gI ⟨#[49, 50, 46, 51, 52, 48]⟩ 4 ty HI.out (by decide)).trans (by rfl)
      have HI2 : Aside0 ((wr.iterAt gI ⟨#[49, 50, 46, 51, 52, 48]⟩ 5).heap[gI]? = some (.stringIter ⟨#[49, 50, 46, 51, 52, 48]⟩ 5)) := ⟨Lib.iterAt_heap wr gI ⟨#[49, 50, 46, 51, 52, 48]⟩ 4 5 HI.out⟩
      have HB2 : Aside0 (Below w.heap.size w (wr.iterAt gI ⟨#[49, 50, 46, 51, 52, 48]⟩ 5)) := ⟨Lib.below_iterAt HB.out GEI.out ⟨#[49, 50, 46, 51, 52, 48]⟩ 5⟩
      have BK22 : Aside0 ((wr.iterAt gI ⟨#[49, 50, 46, 51, 52, 48]⟩ 5).heap[g2]? = some (.cells #[.int .i64 0, .int .i64 0] 25 (0, 0))) := ⟨(Lib.iterAt_other wr gI g2 ⟨#[49, 50, 46, 51, 52, 48]⟩ 5 N2I.out).trans BK2.out⟩
      have BK52 : Aside0 ((wr.iterAt gI ⟨#[49, 50, 46, 51, 52, 48]⟩ 5).heap[g5]? = some (.cells #[.int .i64 (-123), .int .i64 1] 25 (0, 0))) := ⟨(Lib.iterAt_other wr gI g5 ⟨#[49, 50, 46, 51, 52, 48]⟩ 5 N5I.out).trans BK5.out⟩
      clear HI HB BK2 BK5
      have HI := HI2
      have HB := HB2
      have BK2 := BK22
      have BK5 := BK52
      clear HI2 HB2 BK22 BK52
      generalize wr.iterAt gI ⟨#[49, 50, 46, 51, 52, 48]⟩ 5 = w1 at *
      have hcz1_0 : w1.cell? ⟨g5, 0, none⟩ = some (.int .i64 (-123)) := (blk_cell BK5.out 0).trans rfl; have hcz1_1 : w1.cell? ⟨g5, 1, none⟩ = some (.int .i64 1) := (blk_cell BK5.out 1).trans rfl; have hfz1_0 := kA BK5.out 0; have hfz1_1 := kA BK5.out 1
      go_wp2_with (first | (go_at_call 32; (with_reducible refine (num_Mul.calls 3 (-123) 10 (-1230) 0 _ (by decide +kernel)).mono ?_); rintro e_ w2 ⟨rfl, hb⟩; have n0_ := Aside0.mk (below_step (by repeat (first | (with_reducible first | exact HB.out | apply below_alloc | apply kB | apply below_drew1 | refine below_set ?_ GE2.out | refine below_set ?_ GE5.out) | exact HB.out)) hb); have n1_ := Aside0.mk (blk_below (g := g2) (o := .cells #[.int .i64 0, .int .i64 0] 25 (0, 0)) (by refine blk_far ?_ N25.out _; exact BK2.out) hb); have n2_ := Aside0.mk (blk_below (g := g5) (o := .cells #[.int .i64 (-123), .int .i64 2] 25 (0, 0)) (by refine blk_put (cs := #[.int .i64 (-123), .int .i64 1]) ?_ 1 _ rfl; exact BK5.out) hb); have n3_ := Aside0.mk (blk_below (g := gI) (o := .stringIter ⟨#[49, 50, 46, 51, 52, 48]⟩ 5) (by rw [Below.heap_setCell _ _ _ _ N5I_.out]; exact HI.out) hb); clear HB BK2 BK5 HI; have HB := n0_; have BK2 := n1_; have BK5 := n2_; have HI := n3_; clear n0_ n1_ n2_ n3_ hb; have hcz2_0 : w2.cell? ⟨g5, 0, none⟩ = some (.int .i64 (-123)) := (blk_cell BK5.out 0).trans rfl; have hcz2_1 : w2.cell? ⟨g5, 1, none⟩ = some (.int .i64 2) := (blk_cell BK5.out 1).trans rfl; have hfz2_0 := kA BK5.out 0; have hfz2_1 := kA BK5.out 1) | (go_at_call 33; (with_reducible refine (num_Sub.calls (-1230) 4 (-1234) 0 _ (by decide +kernel)).mono ?_); rintro e_ w3 ⟨rfl, ⟨nd, rfl⟩⟩))
      go_roundg 2
      case measure => have := hq.out; omega
      case rel => exact ⟨⟨by repeat (first | (with_reducible first | exact HB.out | apply below_alloc | apply kB | apply below_drew1 | refine below_set ?_ GE2.out | refine below_set ?_ GE5.out) | exact HB.out)⟩, ⟨blk_far (blk_drewN (blk_far BK2.out N25.out _) _) N25.out _⟩, .inr (.inr (.inr (.inr (.inr (.inl ⟨⟨rfl⟩, rfl, rfl, rfl, ⟨blk_put (cs := #[.int .i64 (-1230), .int .i64 2]) (blk_drewN (blk_put (cs := #[.int .i64 (-123), .int .i64 2]) BK5.out 0 _ rfl) _) 0 _ rfl⟩, ⟨(Below.heap_setCell _ _ _ _ N5I_.out).trans (show _ = _ from (Below.heap_setCell _ _ _ _ N5I_.out).trans HI.out)⟩⟩)))))⟩
    · have hnx : ∀ ty, (Instr.next (.pointer (some ⟨gI, 0, none⟩)) true ty).run Try.prog wr = .ok (.tuple #[.bool true, .int .i64 5, .int .i32 48]) (wr.iterAt gI ⟨#[49, 50, 46, 51, 52, 48]⟩ 6) := fun ty => (Lib.run_next_any_at wr gI ⟨#[49, 50, 46, 51, 52, 48]⟩ 5 ty HI.out (by decide)).trans (by rfl)
      have HI2 : Aside0 ((wr.iterAt gI ⟨#[49, 50, 46, 51, 52, 48]⟩ 6).heap[gI]? = some (.stringIter ⟨#[49, 50, 46, 51, 52, 48]⟩ 6)) := ⟨Lib.iterAt_heap wr gI ⟨#[49, 50, 46, 51, 52, 48]⟩ 5 6 HI.out⟩
      have HB2 : Aside0 (Below w.heap.size w (wr.iterAt gI ⟨#[49, 50, 46, 51, 52, 48]⟩ 6)) := ⟨Lib.below_iterAt HB.out GEI.out ⟨#[49, 50, 46, 51, 52, 48]⟩ 6⟩
      have BK22 : Aside0 ((wr.iterAt gI ⟨#[49, 50, 46, 51, 52, 48]⟩ 6).heap[g2]? = some (.cells #[.int .i64 0, .int .i64 0] 25 (0, 0))) := ⟨(Lib.iterAt_other wr gI g2 ⟨#[49, 50, 46, 51, 52, 48]⟩ 6 N2I.out).trans BK2.out⟩
      have BK52 : Aside0 ((wr.iterAt gI ⟨#[49, 50, 46, 51, 52, 48]⟩ 6).heap[g5]? = some (.cells #[.int .i64 (-1234), .int .i64 2] 25 (0, 0))) := ⟨(Lib.iterAt_other wr gI g5 ⟨#[49, 50, 46, 51, 52, 48]⟩ 6 N5I.out).trans BK5.out⟩
      clear HI HB BK2 BK5
      have HI := HI2
      have HB := HB2
      have BK2 := BK22
      have BK5 := BK52
      clear HI2 HB2 BK22 BK52
      generalize wr.iterAt gI ⟨#[49, 50, 46, 51, 52, 48]⟩ 6 = w1 at *
      have hcz1_0 : w1.cell? ⟨g5, 0, none⟩ = some (.int .i64 (-1234)) := (blk_cell BK5.out 0).trans rfl; have hcz1_1 : w1.cell? ⟨g5, 1, none⟩ = some (.int .i64 2) := (blk_cell BK5.out 1).trans rfl; have hfz1_0 := kA BK5.out 0; have hfz1_1 := kA BK5.out 1
      go_wp2_with (first | (go_at_call 32; (with_reducible refine (num_Mul.calls 3 (-1234) 10 (-12340) 0 _ (by decide +kernel)).mono ?_); rintro e_ w2 ⟨rfl, hb⟩; have n0_ := Aside0.mk (below_step (by repeat (first | (with_reducible first | exact HB.out | apply below_alloc | apply kB | apply below_drew1 | refine below_set ?_ GE2.out | refine below_set ?_ GE5.out) | exact HB.out)) hb); have n1_ := Aside0.mk (blk_below (g := g2) (o := .cells #[.int .i64 0, .int .i64 0] 25 (0, 0)) (by refine blk_far ?_ N25.out _; exact BK2.out) hb); have n2_ := Aside0.mk (blk_below (g := g5) (o := .cells #[.int .i64 (-1234), .int .i64 3] 25 (0, 0)) (by refine blk_put (cs := #[.int .i64 (-1234), .int .i64 2]) ?_ 1 _ rfl; exact BK5.out) hb); have n3_ := Aside0.mk (blk_below (g := gI) (o := .stringIter ⟨#[49, 50, 46, 51, 52, 48]⟩ 6) (by rw [Below.heap_setCell _ _ _ _ N5I_.out]; exact HI.out) hb); clear HB BK2 BK5 HI; have HB := n0_; have BK2 := n1_; have BK5 := n2_; have HI := n3_; clear n0_ n1_ n2_ n3_ hb; have hcz2_0 : w2.cell? ⟨g5, 0, none⟩ = some (.int .i64 (-1234)) := (blk_cell BK5.out 0).trans rfl; have hcz2_1 : w2.cell? ⟨g5, 1, none⟩ = some (.int .i64 3) := (blk_cell BK5.out 1).trans rfl; have hfz2_0 := kA BK5.out 0; have hfz2_1 := kA BK5.out 1) | (go_at_call 33; (with_reducible refine (num_Sub.calls (-12340) 0 (-12340) 0 _ (by decide +kernel)).mono ?_); rintro e_ w3 ⟨rfl, ⟨nd, rfl⟩⟩))
      go_roundg 1
      case measure => have := hq.out; omega
      case rel => exact ⟨⟨by repeat (first | (with_reducible first | exact HB.out | apply below_alloc | apply kB | apply below_drew1 | refine below_set ?_ GE2.out | refine below_set ?_ GE5.out) | exact HB.out)⟩, ⟨blk_far (blk_drewN (blk_far BK2.out N25.out _) _) N25.out _⟩, .inr (.inr (.inr (.inr (.inr (.inr (⟨⟨rfl⟩, rfl, rfl, rfl, ⟨blk_put (cs := #[.int .i64 (-12340), .int .i64 3]) (blk_drewN (blk_put (cs := #[.int .i64 (-1234), .int .i64 3]) BK5.out 0 _ rfl) _) 0 _ rfl⟩, ⟨(Below.heap_setCell _ _ _ _ N5I_.out).trans (show _ = _ from (Below.heap_setCell _ _ _ _ N5I_.out).trans HI.out)⟩⟩))))))⟩
    · have hnx : ∀ ty, (Instr.next (.pointer (some ⟨gI, 0, none⟩)) true ty).run Try.prog wr = _ := fun ty => Lib.run_next_end_at wr gI ⟨#[49, 50, 46, 51, 52, 48]⟩ 6 ty HI.out (by decide)
      have hcz1_0 : wr.cell? ⟨g5, 0, none⟩ = some (.int .i64 (-12340)) := (blk_cell BK5.out 0).trans rfl; have hcz1_1 : wr.cell? ⟨g5, 1, none⟩ = some (.int .i64 3) := (blk_cell BK5.out 1).trans rfl; have hfz1_0 := kA BK5.out 0; have hfz1_1 := kA BK5.out 1
      go_wp2_with (first | (go_at_call 34; (with_reducible refine (num_Neg.calls (-12340) 12340 0 _ (by decide +kernel)).mono ?_); rintro e_ w3 ⟨rfl, ⟨nd, rfl⟩⟩) | (go_at_call 35; (with_reducible refine (dec_made.calls 12340 3 0 12340 3 0 _ (by decide +kernel)).mono ?_); rintro e_ w4 ⟨rfl, hb⟩; have n0_ := Aside0.mk (below_step (by repeat (first | (with_reducible first | exact HB.out | apply below_alloc | apply kB | apply below_drew1 | refine below_set ?_ GE2.out | refine below_set ?_ GE5.out) | exact HB.out)) hb); have n1_ := Aside0.mk (blk_below (g := g2) (o := .cells #[.int .i64 0, .int .i64 0] 25 (0, 0)) (blk_far (blk_drewN BK2.out _) N25.out _) hb); clear HB BK2 BK5 HI; have HB := n0_; have BK2 := n1_; clear n0_ n1_ hb; have hcz9_0 : w4.cell? ⟨g2, 0, none⟩ = some (.int .i64 0) := (blk_cell BK2.out 0).trans rfl; have hcz9_1 : w4.cell? ⟨g2, 1, none⟩ = some (.int .i64 0) := (blk_cell BK2.out 1).trans rfl; have hfz9_0 := kA BK2.out 0; have hfz9_1 := kA BK2.out 1))
      refine bodyPost_ret (results_ct rfl _ _ g2 25 #[.int .i64 12340, .int .i64 3] (0, 0) _ rfl (by (with_reducible repeat (first | refine blk_drewN ?_ _ | refine blk_drew ?_ | refine blk_alloc ?_ _)); refine blk_put (cs := #[.int .i64 12340, .int .i64 0]) ?_ 1 _ rfl; (with_reducible repeat (first | refine blk_drewN ?_ _ | refine blk_drew ?_ | refine blk_alloc ?_ _)); refine blk_put (cs := #[.int .i64 0, .int .i64 0]) ?_ 0 _ rfl; (with_reducible repeat (first | refine blk_drewN ?_ _ | refine blk_drew ?_ | refine blk_alloc ?_ _)); exact BK2.out) Try.underlying25 rfl (by kernel_rfl)) rfl ?_
      exact ⟨rfl, by repeat (first | (with_reducible first | exact HB.out | apply below_alloc | apply kB | apply below_drew1 | refine below_set ?_ GE2.out | refine below_set ?_ GE5.out) | exact HB.out)⟩
theorem dec_Read.calls (a0 : ByteArray) (r1 : Int) (r2 : Int) (r3 : Int) (w : World) (h : dec_Read.f a0 = some (r1, r2, r3)) :
    Calls Try.prog 11 #[.string a0] w fun e w' => e = .returned (.tuple #[.agg #[.int .i64 r1, .int .i64 r2], .int .i64 r3]) ∧ Below w.heap.size w w' := by
  unfold dec_Read.f at h
  by_cases g : a0 = ⟨#[49, 50, 46, 51, 52, 48]⟩
  · rw [if_pos g] at h
    simp only [Option.some.injEq, Prod.mk.injEq] at h
    obtain ⟨rfl, rfl, rfl⟩ := h
    subst g
    exact dec_Read.at12 w
  · rw [if_neg g] at h
    cases h
noncomputable def dec_Read.con : Con
  | [.str a0] => some ((dec_Read.f a0).isSome, .tup [.agg [.int .i64 (gd (dec_Read.f a0)).1, .int .i64 (gd (dec_Read.f a0)).2.1], .int .i64 (gd (dec_Read.f a0)).2.2])
  | _ => none
set_option maxRecDepth 100000 in
theorem dec_Read.cok : COk Try.prog 11 (dec_Read.con) := by
  intro args p v hc hp w A hA
  unfold dec_Read.con at hc
  split at hc
  · rename_i a0
    simp only [Option.some.injEq, Prod.mk.injEq] at hc
    obtain ⟨rfl, rfl⟩ := hc
    rcases hf : dec_Read.f a0 with _ | ⟨r1, r2, r3⟩
    · rw [hf] at hp; cases hp
    obtain rfl : A = [.string a0] := by simpa [rl_cons, rl_nil, rv_int, rv_bool, rv_str, rv_agg, rv_fn] using hA
    exact gives_of_calls (fn := Try.f11) Try.func11 (by kernel_rfl) (by kernel_rfl) (dec_Read.calls _ _ _ _ w hf) (fun _ => by simp [gd_some, rl_cons, rl_nil, rv_int, rv_bool, rv_str, rv_agg, rv_tup]) (fun _ h => h)
  · cases hc
end Go.Proofs.Ytkongoedgngfhaa.P
namespace Go.Proofs.Ytkongoedgngfhaa.P
open Go.RowKit Go.Proofs.YtkongoedgngfhaaW.PrintWords Go.Proofs.YtkongoedgngfhaaW.PrintLast Go.Proofs.YtkongoedgngfhaaW.PrintMore
open Go.Proofs.Ytkongoedgngfhaa.A
attribute [local go_sem] max2_int min2_int max_two min_two max_three min_three max_four min_four   -- for this text's walks alone
set_option linter.unusedVariables false
set_option linter.unusedSimpArgs false
def computuslaw04_known.f (k : Nat)  : Option (Bool) := (dec_Read.f (⟨#[49, 50, 46, 51, 52, 48]⟩ : ByteArray)).bind fun bt284 => ((dec_Round.f k 25 1 0).bind fun bt288 => ((dec_Floor.f k (-5) 1).bind fun bt292 => ((dec_Trim.f k bt284.1 bt284.2.1).bind fun bt294 => ((dec_Text.f (-5) 1).bind fun t297 => (if t297.toList = ([45, 48, 46, 53] : List UInt8) then (if bt284.1 = 12340 then (if bt284.2.1 = 3 then (if bt284.2.2 = 0 then (if bt294.1 = 1234 then (if bt294.2 = 2 then (if bt288.1 = 3 then (if bt288.2.1 = 0 then (if bt288.2.2 = 0 then (if bt292.1 = (-1) then (some (bt292.2 == 0)) else (some false)) else (some false)) else (some false)) else (some false)) else (some false)) else (some false)) else (some false)) else (some false)) else (some false)) else (some false))))))
theorem computuslaw04_known.mono : ∀ k, LeO (computuslaw04_known.f k ) (computuslaw04_known.f (k + 1) ) := by
  intro  k
  unfold computuslaw04_known.f
  repeat' first
      | (with_reducible exact dec_Floor.mono _ _ _)
      | (with_reducible exact dec_Round.mono _ _ _ _)
      | (with_reducible exact dec_Trim.mono _ _ _)
      | (with_reducible exact LeO.refl _)
      | (with_reducible exact LeO.none _)
      | (with_reducible refine LeO.ite ?_ ?_)
      | (with_reducible refine LeO.bind ?_ (fun _ => ?_))
      | exact dec_Floor.mono _ _ _
      | exact dec_Round.mono _ _ _ _
      | exact dec_Trim.mono _ _ _
      | exact LeO.none _
      | refine LeO.ite ?_ ?_
      | refine LeO.bind ?_ (fun _ => ?_)
set_option maxRecDepth 100000 in
theorem computuslaw04_known.vc (k : Nat) (K : AV → Prop) : afv PA Try.prog (tab [(9, dec_Text.con), (11, dec_Read.con), (19, dec_Round.con k), (21, dec_Floor.con k), (23, dec_Trim.con k)]) noLoops 2 16 [] K = (brc (Option.isSome (dec_Read.f { data := #[49, 50, 46, 51, 52, 48] })) (∀ (m0 : Int), m0 = Prod.fst (gd (dec_Read.f { data := #[49, 50, 46, 51, 52, 48] })) → ∀ (m1 : Int), m1 = Prod.fst (Prod.snd (gd (dec_Read.f { data := #[49, 50, 46, 51, 52, 48] }))) → ∀ (m2 : Int), m2 = Prod.snd (Prod.snd (gd (dec_Read.f { data := #[49, 50, 46, 51, 52, 48] }))) → brc (Option.isSome (dec_Round.f k 25 1 0)) (∀ (m3 : Int), m3 = Prod.fst (gd (dec_Round.f k 25 1 0)) → ∀ (m4 : Int), m4 = Prod.fst (Prod.snd (gd (dec_Round.f k 25 1 0))) → ∀ (m5 : Int), m5 = Prod.snd (Prod.snd (gd (dec_Round.f k 25 1 0))) → brc (Option.isSome (dec_Floor.f k (-5) 1)) (∀ (m6 : Int), m6 = Prod.fst (gd (dec_Floor.f k (-5) 1)) → ∀ (m7 : Int), m7 = Prod.snd (gd (dec_Floor.f k (-5) 1)) → brc (Option.isSome (dec_Trim.f k m0 m1)) (∀ (m8 : Int), m8 = Prod.fst (gd (dec_Trim.f k m0 m1)) → ∀ (m9 : Int), m9 = Prod.snd (gd (dec_Trim.f k m0 m1)) → brc (Option.isSome (dec_Text.f (-5) 1)) (brc (ByteArray.toList (gd (dec_Text.f (-5) 1)) == ByteArray.toList { data := #[45, 48, 46, 53] }) (brc (m0 == 12340) (brc (m1 == 3) (brc (m2 == 0) (brc (m8 == 1234) (brc (m9 == 2) (brc (m3 == 3) (brc (m4 == 0) (brc (m5 == 0) (brc (m6 == -1) (K (AV.bool (m7 == 0))) (K (AV.bool false))) (K (AV.bool false))) (K (AV.bool false))) (K (AV.bool false))) (K (AV.bool false))) (K (AV.bool false))) (K (AV.bool false))) (K (AV.bool false))) (K (AV.bool false))) (K (AV.bool false))) False) False) False) False) False) := by kernel_rfl
set_option maxHeartbeats 1000000 in
set_option maxRecDepth 100000 in
theorem computuslaw04_known.calls (k : Nat)  (r : Bool) (w : World) (h : computuslaw04_known.f k  = some r) (hR : r = true) :
    Calls Try.prog 16 #[] w fun e w' => e = .returned (.bool r) ∧ Below w.heap.size w w' := by
  refine calls_of_vc (A := []) (v := .bool r) (tab_cons (dec_Text.cok) (tab_cons (dec_Read.cok) (tab_cons (dec_Round.cok k) (tab_cons (dec_Floor.cok k) (tab_cons (dec_Trim.cok k) (tab_nil)))))) ((computuslaw04_known.vc k _).mpr ?_) (by simp [rl_cons, rl_nil, rv_int, rv_bool, rv_str, rv_agg, rv_fn]) (fun ρ V' hV => by simpa [rl_cons, rl_nil, rv_int, rv_bool, rv_str, rv_agg, rv_tup] using hV)
  unfold computuslaw04_known.f at h
  (try simp only [bne, Option.bind_eq_some_iff, ite_some_iff] at h)
  (try simp only [bne, brc_iff, wrap_i64])
  first
    | grind (splits := 60) [gd_some]
    | ((repeat' (first | (have or_ : Or _ _ := h; clear or_; rcases h with h | h) | (have or_ : Exists _ := h; clear or_; obtain ⟨_, h⟩ := h) | (have or_ : And _ _ := h; clear or_; obtain ⟨hq_, h⟩ := h))) <;> (try simp only [Option.some.injEq, Prod.mk.injEq, reduceCtorEq] at h) <;> (try subst_vars) <;> first | (simp_all [gd_some] <;> (try omega) <;> done) | grind (splits := 60) [gd_some])
    | (intros; subst_vars; simp_all [gd_some]; done)
noncomputable def computuslaw04_known.con (k : Nat) : Con
  | [] => some (decide (computuslaw04_known.f k = some true), .bool true)
  | _ => none
set_option maxRecDepth 100000 in
theorem computuslaw04_known.cok (k : Nat) : COk Try.prog 16 (computuslaw04_known.con k) := by
  intro args p v hc hp w A hA
  unfold computuslaw04_known.con at hc
  split at hc
  · simp only [Option.some.injEq, Prod.mk.injEq] at hc
    obtain ⟨rfl, rfl⟩ := hc
    have hf := of_decide_eq_true hp
    obtain rfl : A = [] := by simpa [rl_cons, rl_nil, rv_int, rv_bool, rv_str, rv_agg, rv_fn] using hA
    exact gives_of_calls (fn := Try.f16) Try.func16 (by kernel_rfl) (by kernel_rfl) (computuslaw04_known.calls _ _ w hf rfl) (fun _ => by simp [gd_some, rl_cons, rl_nil, rv_int, rv_bool, rv_str, rv_agg, rv_tup]) (fun _ h => h)
  · cases hc
theorem computuslaw04_known.up {k : Nat} {r : Bool} (h : computuslaw04_known.f k = some r) : computuslaw04_known.f (k + 1) = some r := computuslaw04_known.mono  k _ h
theorem computuslaw04_known.le  {r : Bool} {k n : Nat} (h : computuslaw04_known.f k = some r) (hk : k ≤ n) : computuslaw04_known.f n = some r := by
  induction hk with
  | refl => exact h
  | step _ ih => exact computuslaw04_known.up ih
end Go.Proofs.Ytkongoedgngfhaa.P
namespace Go.Proofs.Ytkongoedgngfhaa.P
open Go.RowKit Go.Proofs.YtkongoedgngfhaaW.PrintWords Go.Proofs.YtkongoedgngfhaaW.PrintLast Go.Proofs.YtkongoedgngfhaaW.PrintMore
open Go.Proofs.Ytkongoedgngfhaa.A
attribute [local go_sem] max2_int min2_int max_two min_two max_three min_three max_four min_four   -- for this text's walks alone
set_option linter.unusedVariables false
set_option linter.unusedSimpArgs false
def cmp_isNaN_int64.f (a0 : Int) : Option (Bool) := some (a0 != a0)
set_option maxHeartbeats 8000000 in
set_option maxRecDepth 100000 in
theorem cmp_isNaN_int64.calls (a0 : Int) (r : Bool) (w : World) (h : cmp_isNaN_int64.f a0 = some r) :
    Calls Try.prog 62 #[.int .i64 a0] w fun e w' => e = .returned (.bool r) ∧ Drawn0 w w' := by
  have H : (some (a0 != a0)) = some r := h
  clear h
  obtain rfl := Option.some.inj H
  go_enter Try.func62, Try.ntmps62
  go_wp2
  go_ret
  exact ⟨by first | rfl | (simp; done) | (simp [*]; done), by repeat (first | exact Drawn0.refl _ | apply Drawn0.step)⟩
def cmp_Compare_int64.f (a0 : Int) (a1 : Int) : Option (Int) := (cmp_isNaN_int64.f a0).bind fun t479 => ((cmp_isNaN_int64.f a1).bind fun t480 => (if t479 = true then (if t480 = true then (some 0) else (some (-1))) else (if t480 = true then (some 1) else (if a0 < a1 then (some (-1)) else (if a0 > a1 then (some 1) else (some 0))))))
set_option maxHeartbeats 8000000 in
set_option maxRecDepth 100000 in
theorem cmp_Compare_int64.calls (a0 : Int) (a1 : Int) (r : Int) (w : World) (h : cmp_Compare_int64.f a0 a1 = some r) :
    Calls Try.prog 50 #[.int .i64 a0, .int .i64 a1] w fun e w' => e = .returned (.int .i64 r) ∧ Drawn0 w w' := by
  have H : ((cmp_isNaN_int64.f a0).bind fun t479 => ((cmp_isNaN_int64.f a1).bind fun t480 => (if t479 = true then (if t480 = true then (some 0) else (some (-1))) else (if t480 = true then (some 1) else (if a0 < a1 then (some (-1)) else (if a0 > a1 then (some 1) else (some 0))))))) = some r := h
  clear h
  replace H := Option.bind_eq_some_iff.mp H
  obtain ⟨t479, A30, H⟩ := H
  replace H : ((cmp_isNaN_int64.f a1).bind fun t480 => (if t479 = true then (if t480 = true then (some 0) else (some (-1))) else (if t480 = true then (some 1) else (if a0 < a1 then (some (-1)) else (if a0 > a1 then (some 1) else (some 0)))))) = some r := H
  have A3 := Aside0.mk A30
  clear A30
  replace H := Option.bind_eq_some_iff.mp H
  obtain ⟨t480, A40, H⟩ := H
  replace H : (if t479 = true then (if t480 = true then (some 0) else (some (-1))) else (if t480 = true then (some 1) else (if a0 < a1 then (some (-1)) else (if a0 > a1 then (some 1) else (some 0))))) = some r := H
  have A4 := Aside0.mk A40
  clear A40
  by_cases c5 : t479 = true
  · subst c5
    have H1 : (if t480 = true then (some 0) else (some (-1))) = some r := by rw [if_pos rfl] at H; exact H
    clear H
    have H := H1
    clear H1
    by_cases c6 : t480 = true
    · subst c6
      have H1 : (some 0) = some r := by rw [if_pos rfl] at H; exact H
      clear H
      have H := H1
      clear H1
      obtain rfl := Option.some.inj H
      go_enter Try.func50, Try.ntmps50
      go_wp2_with (first | ((with_reducible refine gate_callee (f := 62) rfl ?_); refine goesL_ (some 8) rfl rfl Try.func62 (by kernel_rfl) rfl #[.int .i64 a0] rfl (by (try simp only [List.map_toArray, List.map_cons, List.map_nil]); first | done | rfl | (simp only [List.length_drop, List.length_take]; rfl)) ?_; (with_reducible refine (cmp_isNaN_int64.calls a0 true _ A3.out).mono ?_); rintro e w' ⟨rfl, ⟨nd, rfl⟩⟩; refine ⟨_, rfl, ?_⟩) | ((with_reducible refine gate_callee (f := 62) rfl ?_); refine goesL_ (some 10) rfl rfl Try.func62 (by kernel_rfl) rfl #[.int .i64 a1] rfl (by (try simp only [List.map_toArray, List.map_cons, List.map_nil]); first | done | rfl | (simp only [List.length_drop, List.length_take]; rfl)) ?_; (with_reducible refine (cmp_isNaN_int64.calls a1 true _ A4.out).mono ?_); rintro e w' ⟨rfl, ⟨nd, rfl⟩⟩; refine ⟨_, rfl, ?_⟩))
      go_ret
      exact ⟨by first | rfl | (simp; done) | (simp [*]; done), by repeat (first | exact Drawn0.refl _ | apply Drawn0.step)⟩
    · replace c6 := Bool.eq_false_iff.mpr c6
      subst c6
      have H1 : (some (-1)) = some r := by rw [if_neg (show ¬ (false = true) by decide)] at H; exact H
      clear H
      have H := H1
      clear H1
      obtain rfl := Option.some.inj H
      go_enter Try.func50, Try.ntmps50
      go_wp2_with (first | ((with_reducible refine gate_callee (f := 62) rfl ?_); refine goesL_ (some 8) rfl rfl Try.func62 (by kernel_rfl) rfl #[.int .i64 a0] rfl (by (try simp only [List.map_toArray, List.map_cons, List.map_nil]); first | done | rfl | (simp only [List.length_drop, List.length_take]; rfl)) ?_; (with_reducible refine (cmp_isNaN_int64.calls a0 true _ A3.out).mono ?_); rintro e w' ⟨rfl, ⟨nd, rfl⟩⟩; refine ⟨_, rfl, ?_⟩) | ((with_reducible refine gate_callee (f := 62) rfl ?_); refine goesL_ (some 10) rfl rfl Try.func62 (by kernel_rfl) rfl #[.int .i64 a1] rfl (by (try simp only [List.map_toArray, List.map_cons, List.map_nil]); first | done | rfl | (simp only [List.length_drop, List.length_take]; rfl)) ?_; (with_reducible refine (cmp_isNaN_int64.calls a1 false _ A4.out).mono ?_); rintro e w' ⟨rfl, ⟨nd, rfl⟩⟩; refine ⟨_, rfl, ?_⟩))
      go_ret
      exact ⟨by first | rfl | (simp; done) | (simp [*]; done), by repeat (first | exact Drawn0.refl _ | apply Drawn0.step)⟩
  · replace c5 := Bool.eq_false_iff.mpr c5
    subst c5
    have H1 : (if t480 = true then (some 1) else (if a0 < a1 then (some (-1)) else (if a0 > a1 then (some 1) else (some 0)))) = some r := by rw [if_neg (show ¬ (false = true) by decide)] at H; exact H
    clear H
    have H := H1
    clear H1
    by_cases c7 : t480 = true
    · subst c7
      have H1 : (some 1) = some r := by rw [if_pos rfl] at H; exact H
      clear H
      have H := H1
      clear H1
      obtain rfl := Option.some.inj H
      go_enter Try.func50, Try.ntmps50
      go_wp2_with (first | ((with_reducible refine gate_callee (f := 62) rfl ?_); refine goesL_ (some 8) rfl rfl Try.func62 (by kernel_rfl) rfl #[.int .i64 a0] rfl (by (try simp only [List.map_toArray, List.map_cons, List.map_nil]); first | done | rfl | (simp only [List.length_drop, List.length_take]; rfl)) ?_; (with_reducible refine (cmp_isNaN_int64.calls a0 false _ A3.out).mono ?_); rintro e w' ⟨rfl, ⟨nd, rfl⟩⟩; refine ⟨_, rfl, ?_⟩) | ((with_reducible refine gate_callee (f := 62) rfl ?_); refine goesL_ (some 10) rfl rfl Try.func62 (by kernel_rfl) rfl #[.int .i64 a1] rfl (by (try simp only [List.map_toArray, List.map_cons, List.map_nil]); first | done | rfl | (simp only [List.length_drop, List.length_take]; rfl)) ?_; (with_reducible refine (cmp_isNaN_int64.calls a1 true _ A4.out).mono ?_); rintro e w' ⟨rfl, ⟨nd, rfl⟩⟩; refine ⟨_, rfl, ?_⟩))
      go_ret
      exact ⟨by first | rfl | (simp; done) | (simp [*]; done), by repeat (first | exact Drawn0.refl _ | apply Drawn0.step)⟩
    · replace c7 := Bool.eq_false_iff.mpr c7
      subst c7
      have H1 : (if a0 < a1 then (some (-1)) else (if a0 > a1 then (some 1) else (some 0))) = some r := by rw [if_neg (show ¬ (false = true) by decide)] at H; exact H
      clear H
      have H := H1
      clear H1
      by_cases c8 : a0 < a1
      · rw [if_pos c8] at H
        have c8b0 : decide (a0 < a1) = true := decide_eq_true c8
        clear c8
        obtain rfl := Option.some.inj H
        go_enter Try.func50, Try.ntmps50
        go_wp2_with (first | ((with_reducible refine gate_callee (f := 62) rfl ?_); refine goesL_ (some 8) rfl rfl Try.func62 (by kernel_rfl) rfl #[.int .i64 a0] rfl (by (try simp only [List.map_toArray, List.map_cons, List.map_nil]); first | done | rfl | (simp only [List.length_drop, List.length_take]; rfl)) ?_; (with_reducible refine (cmp_isNaN_int64.calls a0 false _ A3.out).mono ?_); rintro e w' ⟨rfl, ⟨nd, rfl⟩⟩; refine ⟨_, rfl, ?_⟩) | ((with_reducible refine gate_callee (f := 62) rfl ?_); refine goesL_ (some 10) rfl rfl Try.func62 (by kernel_rfl) rfl #[.int .i64 a1] rfl (by (try simp only [List.map_toArray, List.map_cons, List.map_nil]); first | done | rfl | (simp only [List.length_drop, List.length_take]; rfl)) ?_; (with_reducible refine (cmp_isNaN_int64.calls a1 false _ A4.out).mono ?_); rintro e w' ⟨rfl, ⟨nd, rfl⟩⟩; refine ⟨_, rfl, ?_⟩))
        go_ret
        exact ⟨by first | rfl | (simp; done) | (simp [*]; done), by repeat (first | exact Drawn0.refl _ | apply Drawn0.step)⟩
      · rw [if_neg c8] at H
        have c8b0 : decide (a0 < a1) = false := decide_eq_false c8
        clear c8
        by_cases c9 : a0 > a1
        · rw [if_pos c9] at H
          have c9b0 : decide (a1 < a0) = true := decide_eq_true c9
          clear c9
          obtain rfl := Option.some.inj H
          go_enter Try.func50, Try.ntmps50
          go_wp2_with (first | ((with_reducible refine gate_callee (f := 62) rfl ?_); refine goesL_ (some 8) rfl rfl Try.func62 (by kernel_rfl) rfl #[.int .i64 a0] rfl (by (try simp only [List.map_toArray, List.map_cons, List.map_nil]); first | done | rfl | (simp only [List.length_drop, List.length_take]; rfl)) ?_; (with_reducible refine (cmp_isNaN_int64.calls a0 false _ A3.out).mono ?_); rintro e w' ⟨rfl, ⟨nd, rfl⟩⟩; refine ⟨_, rfl, ?_⟩) | ((with_reducible refine gate_callee (f := 62) rfl ?_); refine goesL_ (some 10) rfl rfl Try.func62 (by kernel_rfl) rfl #[.int .i64 a1] rfl (by (try simp only [List.map_toArray, List.map_cons, List.map_nil]); first | done | rfl | (simp only [List.length_drop, List.length_take]; rfl)) ?_; (with_reducible refine (cmp_isNaN_int64.calls a1 false _ A4.out).mono ?_); rintro e w' ⟨rfl, ⟨nd, rfl⟩⟩; refine ⟨_, rfl, ?_⟩))
          go_ret
          exact ⟨by first | rfl | (simp; done) | (simp [*]; done), by repeat (first | exact Drawn0.refl _ | apply Drawn0.step)⟩
        · rw [if_neg c9] at H
          have c9b0 : decide (a1 < a0) = false := decide_eq_false c9
          clear c9
          obtain rfl := Option.some.inj H
          go_enter Try.func50, Try.ntmps50
          go_wp2_with (first | ((with_reducible refine gate_callee (f := 62) rfl ?_); refine goesL_ (some 8) rfl rfl Try.func62 (by kernel_rfl) rfl #[.int .i64 a0] rfl (by (try simp only [List.map_toArray, List.map_cons, List.map_nil]); first | done | rfl | (simp only [List.length_drop, List.length_take]; rfl)) ?_; (with_reducible refine (cmp_isNaN_int64.calls a0 false _ A3.out).mono ?_); rintro e w' ⟨rfl, ⟨nd, rfl⟩⟩; refine ⟨_, rfl, ?_⟩) | ((with_reducible refine gate_callee (f := 62) rfl ?_); refine goesL_ (some 10) rfl rfl Try.func62 (by kernel_rfl) rfl #[.int .i64 a1] rfl (by (try simp only [List.map_toArray, List.map_cons, List.map_nil]); first | done | rfl | (simp only [List.length_drop, List.length_take]; rfl)) ?_; (with_reducible refine (cmp_isNaN_int64.calls a1 false _ A4.out).mono ?_); rintro e w' ⟨rfl, ⟨nd, rfl⟩⟩; refine ⟨_, rfl, ?_⟩))
          go_ret
          exact ⟨by first | rfl | (simp; done) | (simp [*]; done), by repeat (first | exact Drawn0.refl _ | apply Drawn0.step)⟩
noncomputable def cmp_Compare_int64.con : Con
  | [.int .i64 a0, .int .i64 a1] => some ((cmp_Compare_int64.f a0 a1).isSome, .int .i64 (gd (cmp_Compare_int64.f a0 a1)))
  | _ => none
set_option maxRecDepth 100000 in
theorem cmp_Compare_int64.cok : COk Try.prog 50 (cmp_Compare_int64.con) := by
  intro args p v hc hp w A hA
  unfold cmp_Compare_int64.con at hc
  split at hc
  · rename_i a0 a1
    simp only [Option.some.injEq, Prod.mk.injEq] at hc
    obtain ⟨rfl, rfl⟩ := hc
    rcases hf : cmp_Compare_int64.f a0 a1 with _ | r
    · rw [hf] at hp; cases hp
    obtain rfl : A = [.int .i64 a0, .int .i64 a1] := by simpa [rl_cons, rl_nil, rv_int, rv_bool, rv_str, rv_agg, rv_fn] using hA
    exact gives_of_calls (fn := Try.f50) Try.func50 (by kernel_rfl) (by kernel_rfl) (cmp_Compare_int64.calls _ _ _ w hf) (fun _ => by simp [gd_some, rl_cons, rl_nil, rv_int, rv_bool, rv_str, rv_agg, rv_tup]) (fun _ h => h.below)
  · cases hc
end Go.Proofs.Ytkongoedgngfhaa.P
namespace Go.Proofs.Ytkongoedgngfhaa.P
open Go.RowKit Go.Proofs.YtkongoedgngfhaaW.PrintWords Go.Proofs.YtkongoedgngfhaaW.PrintLast Go.Proofs.YtkongoedgngfhaaW.PrintMore
open Go.Proofs.Ytkongoedgngfhaa.A
attribute [local go_sem] max2_int min2_int max_two min_two max_three min_three max_four min_four   -- for this text's walks alone
set_option linter.unusedVariables false
set_option linter.unusedSimpArgs false
def dec_Cmp.j0 : Nat → Bool → Int → Int → Int → Int → Option (Int)
  | 0, _, _, _, _, _ => none
  | k + 1, x14, x482000, x482001, x483000, x483001 => if x14 = true then (some 0) else ((dec_Dec_split.f k x482000 x482001).bind fun bt485 => ((dec_Dec_split.f k x483000 x483001).bind fun bt487 => (if (bt485.1 == bt487.1 && (bt485.2 == bt487.2)) = true then (some 0) else (if bt485.1 = bt487.1 then ((cmp_Compare_int64.f bt485.2 bt487.2).bind fun t491 => (some t491)) else ((cmp_Compare_int64.f bt485.1 bt487.1).bind fun t492 => (some t492))))))
def dec_Cmp.f (k : Nat) (a0_0 : Int) (a0_1 : Int) (a1_0 : Int) (a1_1 : Int) : Option (Int) := (dec_Right.f a0_0 a0_1).bind fun t483 => (if t483 = true then ((dec_Right.f a1_0 a1_1).bind fun t484 => (dec_Cmp.j0 k (!t484) a0_0 a0_1 a1_0 a1_1)) else (dec_Cmp.j0 k true a0_0 a0_1 a1_0 a1_1))
theorem dec_Cmp.mono_l : ∀ k, (∀ y0 y1 y2 y3 y4, LeO (dec_Cmp.j0 k y0 y1 y2 y3 y4) (dec_Cmp.j0 (k + 1) y0 y1 y2 y3 y4))
  | 0 => fun _ _ _ _ _ r h => by simp [dec_Cmp.j0] at h
  | k + 1 => by
    have ih0 := dec_Cmp.mono_l k
    · intro y0 y1 y2 y3 y4
      unfold dec_Cmp.j0
      repeat' first
      | (with_reducible exact ih0 _ _ _ _ _)
      | (with_reducible exact dec_Dec_split.mono _ _ _)
      | (with_reducible exact LeO.refl _)
      | (with_reducible exact LeO.none _)
      | (with_reducible refine LeO.ite ?_ ?_)
      | (with_reducible refine LeO.bind ?_ (fun _ => ?_))
      | exact ih0 _ _ _ _ _
      | exact dec_Dec_split.mono _ _ _
      | exact LeO.none _
      | refine LeO.ite ?_ ?_
      | refine LeO.bind ?_ (fun _ => ?_)
theorem dec_Cmp.mono : ∀ a0 a1 a2 a3 k, LeO (dec_Cmp.f k a0 a1 a2 a3) (dec_Cmp.f (k + 1) a0 a1 a2 a3) := by
  intro a0 a1 a2 a3 k
  have ih0 := dec_Cmp.mono_l k
  unfold dec_Cmp.f
  repeat' first
      | (with_reducible exact ih0 _ _ _ _ _)
      | (with_reducible exact dec_Dec_split.mono _ _ _)
      | (with_reducible exact LeO.refl _)
      | (with_reducible exact LeO.none _)
      | (with_reducible refine LeO.ite ?_ ?_)
      | (with_reducible refine LeO.bind ?_ (fun _ => ?_))
      | exact ih0 _ _ _ _ _
      | exact dec_Dec_split.mono _ _ _
      | exact LeO.none _
      | refine LeO.ite ?_ ?_
      | refine LeO.bind ?_ (fun _ => ?_)
set_option maxRecDepth 100000 in
theorem dec_Cmp.vc (k : Nat) (a0_0 : Int) (a0_1 : Int) (a1_0 : Int) (a1_1 : Int) (K : AV → Prop) : afv PA Try.prog (tab [(31, dec_Right.con), (50, cmp_Compare_int64.con), (48, dec_Dec_split.con k)]) noLoops 2 25 [.agg [.int .i64 a0_0, .int .i64 a0_1], .agg [.int .i64 a1_0, .int .i64 a1_1]] K = (brc (Option.isSome (dec_Right.f a0_0 a0_1)) (∀ (m0 : Bool), m0 = gd (dec_Right.f a0_0 a0_1) → brc (!m0) (K (AV.int IntKind.i64 0)) (brc (Option.isSome (dec_Right.f a1_0 a1_1)) (∀ (m1 : Bool), m1 = gd (dec_Right.f a1_0 a1_1) → brc (!m1) (K (AV.int IntKind.i64 0)) (brc (Option.isSome (dec_Dec_split.f k a0_0 a0_1)) (∀ (m2 : Int), m2 = Prod.fst (gd (dec_Dec_split.f k a0_0 a0_1)) → ∀ (m3 : Int), m3 = Prod.snd (gd (dec_Dec_split.f k a0_0 a0_1)) → brc (Option.isSome (dec_Dec_split.f k a1_0 a1_1)) (∀ (m4 : Int), m4 = Prod.fst (gd (dec_Dec_split.f k a1_0 a1_1)) → ∀ (m5 : Int), m5 = Prod.snd (gd (dec_Dec_split.f k a1_0 a1_1)) → brc (m2 == m4 && (m3 == m5 && true)) (K (AV.int IntKind.i64 0)) (brc (m2 != m4) (brc (Option.isSome (cmp_Compare_int64.f m2 m4)) (∀ (m6 : Int), m6 = gd (cmp_Compare_int64.f m2 m4) → K (AV.int IntKind.i64 m6)) False) (brc (Option.isSome (cmp_Compare_int64.f m3 m5)) (∀ (m6 : Int), m6 = gd (cmp_Compare_int64.f m3 m5) → K (AV.int IntKind.i64 m6)) False))) False) False)) False)) False) := by kernel_rfl
set_option maxHeartbeats 1000000 in
set_option maxRecDepth 100000 in
theorem dec_Cmp.calls (k : Nat) (a0_0 : Int) (a0_1 : Int) (a1_0 : Int) (a1_1 : Int) (r : Int) (w : World) (h : dec_Cmp.f k a0_0 a0_1 a1_0 a1_1 = some r) :
    Calls Try.prog 25 #[.agg #[.int .i64 a0_0, .int .i64 a0_1], .agg #[.int .i64 a1_0, .int .i64 a1_1]] w fun e w' => e = .returned (.int .i64 r) ∧ Below w.heap.size w w' := by
  refine calls_of_vc (A := [.agg #[.int .i64 a0_0, .int .i64 a0_1], .agg #[.int .i64 a1_0, .int .i64 a1_1]]) (v := .int .i64 r) (tab_cons (dec_Right.cok) (tab_cons (cmp_Compare_int64.cok) (tab_cons (dec_Dec_split.cok k) (tab_nil)))) ((dec_Cmp.vc k a0_0 a0_1 a1_0 a1_1 _).mpr ?_) (by simp [rl_cons, rl_nil, rv_int, rv_bool, rv_str, rv_agg, rv_fn]) (fun ρ V' hV => by simpa [rl_cons, rl_nil, rv_int, rv_bool, rv_str, rv_agg, rv_tup] using hV)
  unfold dec_Cmp.f at h
  cases k with
  | zero =>
    (try simp only [dec_Cmp.j0] at h)
    (try simp only [bne, Option.bind_eq_some_iff, ite_some_iff] at h)
    (try simp only [bne, brc_iff, wrap_i64])
    first
      | grind (splits := 60) [gd_some]
      | ((repeat' (first | (have or_ : Or _ _ := h; clear or_; rcases h with h | h) | (have or_ : Exists _ := h; clear or_; obtain ⟨_, h⟩ := h) | (have or_ : And _ _ := h; clear or_; obtain ⟨hq_, h⟩ := h))) <;> (try simp only [Option.some.injEq, Prod.mk.injEq, reduceCtorEq] at h) <;> (try subst_vars) <;> first | (simp_all [gd_some] <;> (try omega) <;> done) | grind (splits := 60) [gd_some])
      | (intros; subst_vars; simp_all [gd_some]; done)
  | succ k =>
    (try simp only [dec_Cmp.j0] at h)
    (try simp only [bne, Option.bind_eq_some_iff, ite_some_iff] at h)
    (try simp only [bne, brc_iff, wrap_i64])
    first
      | grind (splits := 60) [gd_some, dec_Dec_split.up]
      | ((repeat' (first | (have or_ : Or _ _ := h; clear or_; rcases h with h | h) | (have or_ : Exists _ := h; clear or_; obtain ⟨_, h⟩ := h) | (have or_ : And _ _ := h; clear or_; obtain ⟨hq_, h⟩ := h; (try first | replace hq_ := dec_Dec_split.le (n := k + 1) hq_ (by omega))))) <;> (try simp only [Option.some.injEq, Prod.mk.injEq, reduceCtorEq] at h) <;> (try subst_vars) <;> first | (simp_all [gd_some] <;> (try omega) <;> done) | grind (splits := 60) [gd_some, dec_Dec_split.up])
      | (intros; subst_vars; simp_all [gd_some]; done)
noncomputable def dec_Cmp.con (k : Nat) : Con
  | [.agg [.int .i64 a0_0, .int .i64 a0_1], .agg [.int .i64 a1_0, .int .i64 a1_1]] => some ((dec_Cmp.f k a0_0 a0_1 a1_0 a1_1).isSome, .int .i64 (gd (dec_Cmp.f k a0_0 a0_1 a1_0 a1_1)))
  | _ => none
set_option maxRecDepth 100000 in
theorem dec_Cmp.cok (k : Nat) : COk Try.prog 25 (dec_Cmp.con k) := by
  intro args p v hc hp w A hA
  unfold dec_Cmp.con at hc
  split at hc
  · rename_i a0_0 a0_1 a1_0 a1_1
    simp only [Option.some.injEq, Prod.mk.injEq] at hc
    obtain ⟨rfl, rfl⟩ := hc
    rcases hf : dec_Cmp.f k a0_0 a0_1 a1_0 a1_1 with _ | r
    · rw [hf] at hp; cases hp
    obtain rfl : A = [.agg #[.int .i64 a0_0, .int .i64 a0_1], .agg #[.int .i64 a1_0, .int .i64 a1_1]] := by simpa [rl_cons, rl_nil, rv_int, rv_bool, rv_str, rv_agg, rv_fn] using hA
    exact gives_of_calls (fn := Try.f25) Try.func25 (by kernel_rfl) (by kernel_rfl) (dec_Cmp.calls _ _ _ _ _ _ w hf) (fun _ => by simp [gd_some, rl_cons, rl_nil, rv_int, rv_bool, rv_str, rv_agg, rv_tup]) (fun _ h => h)
  · cases hc
theorem dec_Cmp.up {k : Nat} {a0_0 : Int} {a0_1 : Int} {a1_0 : Int} {a1_1 : Int} {r : Int} (h : dec_Cmp.f k a0_0 a0_1 a1_0 a1_1 = some r) : dec_Cmp.f (k + 1) a0_0 a0_1 a1_0 a1_1 = some r := dec_Cmp.mono a0_0 a0_1 a1_0 a1_1 k _ h
theorem dec_Cmp.le {a0_0 : Int} {a0_1 : Int} {a1_0 : Int} {a1_1 : Int} {r : Int} {k n : Nat} (h : dec_Cmp.f k a0_0 a0_1 a1_0 a1_1 = some r) (hk : k ≤ n) : dec_Cmp.f n a0_0 a0_1 a1_0 a1_1 = some r := by
  induction hk with
  | refl => exact h
  | step _ ih => exact dec_Cmp.up ih
end Go.Proofs.Ytkongoedgngfhaa.P
namespace Go.Proofs.Ytkongoedgngfhaa.P
open Go.RowKit Go.Proofs.YtkongoedgngfhaaW.PrintWords Go.Proofs.YtkongoedgngfhaaW.PrintLast Go.Proofs.YtkongoedgngfhaaW.PrintMore
open Go.Proofs.Ytkongoedgngfhaa.A
attribute [local go_sem] max2_int min2_int max_two min_two max_three min_three max_four min_four   -- for this text's walks alone
set_option linter.unusedVariables false
set_option linter.unusedSimpArgs false
mutual
def computuslaw04_DecOrder.j0 : Nat → Int → Bool → Int → Int → Int → Int → Option (Bool)
  | 0, _, _, _, _, _, _ => none
  | k + 1, x2, x30, x526000, x526001, x527000, x527001 => if x30 = true then ((computuslaw04_known.f k).bind fun t534 => (some t534)) else ((computuslaw04_given.f x526000 x526001).bind fun bt535 => ((dec_Floor.f k bt535.1 bt535.2).bind fun bt537 => ((computuslaw04_given.f x527000 x527001).bind fun bt539 => ((dec_Floor.f k bt539.1 bt539.2).bind fun bt541 => ((computuslaw04_given.f x526000 x526001).bind fun bt543 => ((dec_Round.f k bt543.1 bt543.2 x2).bind fun bt545 => ((computuslaw04_given.f x527000 x527001).bind fun bt549 => ((dec_Round.f k bt549.1 bt549.2 x2).bind fun bt551 => (if bt537.2 = 0 then (if bt541.2 = 0 then (computuslaw04_DecOrder.j1 k bt545.2.2 bt551.2.2 (decide (bt537.1 > bt541.1)) bt545.1 bt545.2.1 bt551.1 bt551.2.1) else (computuslaw04_DecOrder.j1 k bt545.2.2 bt551.2.2 true bt545.1 bt545.2.1 bt551.1 bt551.2.1)) else (computuslaw04_DecOrder.j1 k bt545.2.2 bt551.2.2 true bt545.1 bt545.2.1 bt551.1 bt551.2.1))))))))))
def computuslaw04_DecOrder.j1 : Nat → Int → Int → Bool → Int → Int → Int → Int → Option (Bool)
  | 0, _, _, _, _, _, _, _ => none
  | k + 1, x12, x14, x68, x549000, x549001, x555000, x555001 => if x68 = true then (some false) else (if x12 = 0 then (if x14 = 0 then ((dec_Cmp.f k x549000 x549001 x555000 x555001).bind fun t555 => (if t555 ≤ 0 then ((computuslaw04_known.f k).bind fun t556 => (some t556)) else (some false))) else ((computuslaw04_known.f k).bind fun t557 => (some t557))) else ((computuslaw04_known.f k).bind fun t558 => (some t558)))
end
def computuslaw04_DecOrder.f (k : Nat) (a0_0 : Int) (a0_1 : Int) (a1_0 : Int) (a1_1 : Int) (a2 : Int) : Option (Bool) := (computusref04_Right.f a0_0 a0_1).bind fun t527 => (if t527 = true then ((computusref04_Right.f a1_0 a1_1).bind fun t528 => (if t528 = true then ((computuslaw04_given.f a0_0 a0_1).bind fun bt529 => ((computuslaw04_given.f a1_0 a1_1).bind fun bt531 => ((dec_Cmp.f k bt529.1 bt529.2 bt531.1 bt531.2).bind fun t533 => (computuslaw04_DecOrder.j0 k a2 (decide (t533 > 0)) a0_0 a0_1 a1_0 a1_1)))) else (computuslaw04_DecOrder.j0 k a2 true a0_0 a0_1 a1_0 a1_1))) else (computuslaw04_DecOrder.j0 k a2 true a0_0 a0_1 a1_0 a1_1))
set_option maxRecDepth 100000 in
theorem computuslaw04_DecOrder.vc (k : Nat) (a0_0 : Int) (a0_1 : Int) (a1_0 : Int) (a1_1 : Int) (a2 : Int) (K : AV → Prop) : afv PA Try.prog (tab [(10, computuslaw04_given.con), (15, computusref04_Right.con), (16, computuslaw04_known.con k), (19, dec_Round.con k), (21, dec_Floor.con k), (25, dec_Cmp.con k)]) noLoops 2 6 [.agg [.int .i64 a0_0, .int .i64 a0_1], .agg [.int .i64 a1_0, .int .i64 a1_1], .int .i64 a2] K = (brc (Option.isSome (computusref04_Right.f a0_0 a0_1)) (∀ (m0 : Bool), m0 = gd (computusref04_Right.f a0_0 a0_1) → brc (!m0) (brc (decide (computuslaw04_known.f k = some true)) (∀ (m1 : Bool), m1 = true → K (AV.bool m1)) False) (brc (Option.isSome (computusref04_Right.f a1_0 a1_1)) (∀ (m1 : Bool), m1 = gd (computusref04_Right.f a1_0 a1_1) → brc (!m1) (brc (decide (computuslaw04_known.f k = some true)) (∀ (m2 : Bool), m2 = true → K (AV.bool m2)) False) (brc (Option.isSome (computuslaw04_given.f a0_0 a0_1)) (∀ (m2 : Int), m2 = Prod.fst (gd (computuslaw04_given.f a0_0 a0_1)) → ∀ (m3 : Int), m3 = Prod.snd (gd (computuslaw04_given.f a0_0 a0_1)) → brc (Option.isSome (computuslaw04_given.f a1_0 a1_1)) (∀ (m4 : Int), m4 = Prod.fst (gd (computuslaw04_given.f a1_0 a1_1)) → ∀ (m5 : Int), m5 = Prod.snd (gd (computuslaw04_given.f a1_0 a1_1)) → brc (Option.isSome (dec_Cmp.f k m2 m3 m4 m5)) (∀ (m6 : Int), m6 = gd (dec_Cmp.f k m2 m3 m4 m5) → brc (decide (m6 > 0)) (brc (decide (computuslaw04_known.f k = some true)) (∀ (m7 : Bool), m7 = true → K (AV.bool m7)) False) (brc (Option.isSome (computuslaw04_given.f a0_0 a0_1)) (∀ (m7 : Int), m7 = Prod.fst (gd (computuslaw04_given.f a0_0 a0_1)) → ∀ (m8 : Int), m8 = Prod.snd (gd (computuslaw04_given.f a0_0 a0_1)) → brc (Option.isSome (dec_Floor.f k m7 m8)) (∀ (m9 : Int), m9 = Prod.fst (gd (dec_Floor.f k m7 m8)) → ∀ (m10 : Int), m10 = Prod.snd (gd (dec_Floor.f k m7 m8)) → brc (Option.isSome (computuslaw04_given.f a1_0 a1_1)) (∀ (m11 : Int), m11 = Prod.fst (gd (computuslaw04_given.f a1_0 a1_1)) → ∀ (m12 : Int), m12 = Prod.snd (gd (computuslaw04_given.f a1_0 a1_1)) → brc (Option.isSome (dec_Floor.f k m11 m12)) (∀ (m13 : Int), m13 = Prod.fst (gd (dec_Floor.f k m11 m12)) → ∀ (m14 : Int), m14 = Prod.snd (gd (dec_Floor.f k m11 m12)) → brc (Option.isSome (computuslaw04_given.f a0_0 a0_1)) (∀ (m15 : Int), m15 = Prod.fst (gd (computuslaw04_given.f a0_0 a0_1)) → ∀ (m16 : Int), m16 = Prod.snd (gd (computuslaw04_given.f a0_0 a0_1)) → brc (Option.isSome (dec_Round.f k m15 m16 a2)) (∀ (m17 : Int), m17 = Prod.fst (gd (dec_Round.f k m15 m16 a2)) → ∀ (m18 : Int), m18 = Prod.fst (Prod.snd (gd (dec_Round.f k m15 m16 a2))) → ∀ (m19 : Int), m19 = Prod.snd (Prod.snd (gd (dec_Round.f k m15 m16 a2))) → brc (Option.isSome (computuslaw04_given.f a1_0 a1_1)) (∀ (m20 : Int), m20 = Prod.fst (gd (computuslaw04_given.f a1_0 a1_1)) → ∀ (m21 : Int), m21 = Prod.snd (gd (computuslaw04_given.f a1_0 a1_1)) → brc (Option.isSome (dec_Round.f k m20 m21 a2)) (∀ (m22 : Int), m22 = Prod.fst (gd (dec_Round.f k m20 m21 a2)) → ∀ (m23 : Int), m23 = Prod.fst (Prod.snd (gd (dec_Round.f k m20 m21 a2))) → ∀ (m24 : Int), m24 = Prod.snd (Prod.snd (gd (dec_Round.f k m20 m21 a2))) → brc (m10 != 0) (K (AV.bool false)) (brc (m14 != 0) (K (AV.bool false)) (brc (decide (m9 > m13)) (K (AV.bool false)) (brc (m19 != 0) (brc (decide (computuslaw04_known.f k = some true)) (∀ (m25 : Bool), m25 = true → K (AV.bool m25)) False) (brc (m24 != 0) (brc (decide (computuslaw04_known.f k = some true)) (∀ (m25 : Bool), m25 = true → K (AV.bool m25)) False) (brc (Option.isSome (dec_Cmp.f k m17 m18 m22 m23)) (∀ (m25 : Int), m25 = gd (dec_Cmp.f k m17 m18 m22 m23) → brc (decide (m25 ≤ 0)) (brc (decide (computuslaw04_known.f k = some true)) (∀ (m26 : Bool), m26 = true → K (AV.bool m26)) False) (K (AV.bool false))) False)))))) False) False) False) False) False) False) False) False)) False) False) False)) False)) False) := by kernel_rfl
set_option maxHeartbeats 1000000 in
set_option maxRecDepth 100000 in
theorem computuslaw04_DecOrder.calls (k : Nat) (a0_0 : Int) (a0_1 : Int) (a1_0 : Int) (a1_1 : Int) (a2 : Int) (r : Bool) (w : World) (h : computuslaw04_DecOrder.f k a0_0 a0_1 a1_0 a1_1 a2 = some r) (hR : r = true) :
    Calls Try.prog 6 #[.agg #[.int .i64 a0_0, .int .i64 a0_1], .agg #[.int .i64 a1_0, .int .i64 a1_1], .int .i64 a2] w fun e w' => e = .returned (.bool r) ∧ Below w.heap.size w w' := by
  refine calls_of_vc (A := [.agg #[.int .i64 a0_0, .int .i64 a0_1], .agg #[.int .i64 a1_0, .int .i64 a1_1], .int .i64 a2]) (v := .bool r) (tab_cons (computuslaw04_given.cok) (tab_cons (computusref04_Right.cok) (tab_cons (computuslaw04_known.cok k) (tab_cons (dec_Round.cok k) (tab_cons (dec_Floor.cok k) (tab_cons (dec_Cmp.cok k) (tab_nil))))))) ((computuslaw04_DecOrder.vc k a0_0 a0_1 a1_0 a1_1 a2 _).mpr ?_) (by simp [rl_cons, rl_nil, rv_int, rv_bool, rv_str, rv_agg, rv_fn]) (fun ρ V' hV => by simpa [rl_cons, rl_nil, rv_int, rv_bool, rv_str, rv_agg, rv_tup] using hV)
  unfold computuslaw04_DecOrder.f at h
  cases k with
  | zero =>
    (try simp only [computuslaw04_DecOrder.j0, computuslaw04_DecOrder.j1] at h)
    (try simp only [bne, Option.bind_eq_some_iff, ite_some_iff] at h)
    (try simp only [bne, brc_iff, wrap_i64])
    first
      | grind (splits := 60) [gd_some]
      | ((repeat' (first | (have or_ : Or _ _ := h; clear or_; rcases h with h | h) | (have or_ : Exists _ := h; clear or_; obtain ⟨_, h⟩ := h) | (have or_ : And _ _ := h; clear or_; obtain ⟨hq_, h⟩ := h))) <;> (try simp only [Option.some.injEq, Prod.mk.injEq, reduceCtorEq] at h) <;> (try subst_vars) <;> first | (simp_all [gd_some] <;> (try omega) <;> rcases hb0 : decide (computuslaw04_known.f k = some true) with _ | _ <;> simp_all [gd_some] <;> done) | grind (splits := 60) [gd_some])
      | (intros; subst_vars; simp_all [gd_some]; done)
  | succ k =>
    cases k with
    | zero =>
      (try simp only [computuslaw04_DecOrder.j0, computuslaw04_DecOrder.j1] at h)
      (try simp only [bne, Option.bind_eq_some_iff, ite_some_iff] at h)
      (try simp only [bne, brc_iff, wrap_i64])
      first
        | grind (splits := 60) [gd_some, computuslaw04_known.up, dec_Round.up, dec_Floor.up, dec_Cmp.up]
        | ((repeat' (first | (have or_ : Or _ _ := h; clear or_; rcases h with h | h) | (have or_ : Exists _ := h; clear or_; obtain ⟨_, h⟩ := h) | (have or_ : And _ _ := h; clear or_; obtain ⟨hq_, h⟩ := h; (try first | replace hq_ := computuslaw04_known.le (n := 0 + 1) hq_ (by omega) | replace hq_ := dec_Round.le (n := 0 + 1) hq_ (by omega) | replace hq_ := dec_Floor.le (n := 0 + 1) hq_ (by omega) | replace hq_ := dec_Cmp.le (n := 0 + 1) hq_ (by omega))))) <;> (try simp only [Option.some.injEq, Prod.mk.injEq, reduceCtorEq] at h) <;> (try subst_vars) <;> first | (simp_all [gd_some] <;> (try omega) <;> rcases hb0 : decide (computuslaw04_known.f k = some true) with _ | _ <;> simp_all [gd_some] <;> done) | grind (splits := 60) [gd_some, computuslaw04_known.up, dec_Round.up, dec_Floor.up, dec_Cmp.up])
        | (intros; subst_vars; simp_all [gd_some]; done)
    | succ k =>
      (try simp only [computuslaw04_DecOrder.j0, computuslaw04_DecOrder.j1] at h)
      (try simp only [bne, Option.bind_eq_some_iff, ite_some_iff] at h)
      (try simp only [bne, brc_iff, wrap_i64])
      first
        | grind (splits := 60) [gd_some, computuslaw04_known.up, dec_Round.up, dec_Floor.up, dec_Cmp.up]
        | ((repeat' (first | (have or_ : Or _ _ := h; clear or_; rcases h with h | h) | (have or_ : Exists _ := h; clear or_; obtain ⟨_, h⟩ := h) | (have or_ : And _ _ := h; clear or_; obtain ⟨hq_, h⟩ := h; (try first | replace hq_ := computuslaw04_known.le (n := k + 1 + 1) hq_ (by omega) | replace hq_ := dec_Round.le (n := k + 1 + 1) hq_ (by omega) | replace hq_ := dec_Floor.le (n := k + 1 + 1) hq_ (by omega) | replace hq_ := dec_Cmp.le (n := k + 1 + 1) hq_ (by omega))))) <;> (try simp only [Option.some.injEq, Prod.mk.injEq, reduceCtorEq] at h) <;> (try subst_vars) <;> first | (simp_all [gd_some] <;> (try omega) <;> rcases hb0 : decide (computuslaw04_known.f k = some true) with _ | _ <;> simp_all [gd_some] <;> done) | grind (splits := 60) [gd_some, computuslaw04_known.up, dec_Round.up, dec_Floor.up, dec_Cmp.up])
        | (intros; subst_vars; simp_all [gd_some]; done)
/-- THE ONE PURE STATEMENT of computuslaw04_DecOrder: yours. -/
def computuslaw04_DecOrder.Pure : Prop := ∀ (a0_0 : Int) (a0_1 : Int) (a1_0 : Int) (a1_1 : Int) (a2 : Int), (Lit.int .i64 a0_0).wf = true → (Lit.int .i64 a0_1).wf = true → (Lit.int .i64 a1_0).wf = true → (Lit.int .i64 a1_1).wf = true → (Lit.int .i64 a2).wf = true → ∃ k, computuslaw04_DecOrder.f k a0_0 a0_1 a1_0 a1_1 a2 = some true
theorem computuslaw04_DecOrder.walk (P : computuslaw04_DecOrder.Pure) (a0_0 : Int) (a0_1 : Int) (a1_0 : Int) (a1_1 : Int) (a2 : Int) (w : World) (w0_0 : (Lit.int .i64 a0_0).wf = true) (w0_1 : (Lit.int .i64 a0_1).wf = true) (w1_0 : (Lit.int .i64 a1_0).wf = true) (w1_1 : (Lit.int .i64 a1_1).wf = true) (w2 : (Lit.int .i64 a2).wf = true) :
    Calls Try.prog 6 #[.agg #[.int .i64 a0_0, .int .i64 a0_1], .agg #[.int .i64 a1_0, .int .i64 a1_1], .int .i64 a2] w fun e w' => e = .returned (.bool true) ∧ Below w.heap.size w w' := by
  obtain ⟨k, h⟩ := P a0_0 a0_1 a1_0 a1_1 a2 w0_0 w0_1 w1_0 w1_1 w2
  refine (computuslaw04_DecOrder.calls k a0_0 a0_1 a1_0 a1_1 a2 true w h rfl).mono ?_
  rintro e w' ⟨rfl, hd⟩
  exact ⟨rfl, hd⟩
end Go.Proofs.Ytkongoedgngfhaa.P
namespace Go.Proofs.Ytkongoedgngfhaa.Civ
set_option linter.unusedVariables false
set_option linter.unusedSimpArgs false
open Go.RowKit Go.Proofs.YtkongoedgngfhaaW.PrintWords Go.Proofs.YtkongoedgngfhaaW.PrintLast Go.Proofs.YtkongoedgngfhaaW.PrintMore
theorem w64 {x : Int} (h1 : -9223372036854775808 ≤ x) (h2 : x ≤ 9223372036854775807) : wrap64 x = x := by unfold wrap64; omega
/-- A number is one of 64 bits. -/
def I64 (x : Int) : Prop := -9223372036854775808 ≤ x ∧ x ≤ 9223372036854775807
theorem i64_of_wf {x : Int} (h : (Lit.int .i64 x).wf = true) : I64 x := by
  simp only [Lit.wf, IntKind.min, IntKind.max, IntKind.signed, IntKind.bits, Bool.and_eq_true, decide_eq_true_eq, if_true] at h
  exact h
theorem wrap_i64 (x : Int) : I64 (wrap64 x) := by unfold I64 wrap64; omega
theorem td_pos {a b : Int} (ha : 0 ≤ a) : Int.tdiv a b = a / b := Int.tdiv_eq_ediv_of_nonneg ha
theorem tm_pos {a b : Int} (ha : 0 ≤ a) : Int.tmod a b = a % b := Int.tmod_eq_emod_of_nonneg ha
theorem td_neg {a b : Int} (ha : a ≤ 0) : Int.tdiv a b = -((-a) / b) := by
  have : Int.tdiv (-a) b = (-a) / b := Int.tdiv_eq_ediv_of_nonneg (by omega)
  rw [← this, Int.neg_tdiv, Int.neg_neg]
theorem tm_neg {a b : Int} (ha : a ≤ 0) : Int.tmod a b = -((-a) % b) := by
  have : Int.tmod (-a) b = (-a) % b := Int.tmod_eq_emod_of_nonneg (by omega)
  rw [← this, Int.neg_tmod, Int.neg_neg]
/-- Cut division against floored division. -/
theorem cut_floor (a : Int) {b : Int} (hb : 0 < b) : (Int.tmod a b < 0 → Int.tdiv a b = a / b + 1 ∧ Int.tmod a b = a % b - b ∧ 0 < a % b) ∧ (¬ Int.tmod a b < 0 → Int.tdiv a b = a / b ∧ Int.tmod a b = a % b) := by
  rcases Int.le_total 0 a with h | h
  · rw [td_pos h, tm_pos h]
    have := Int.emod_nonneg a (Int.ne_of_gt hb)
    exact ⟨fun h => by omega, fun _ => ⟨rfl, rfl⟩⟩
  · rw [td_neg h, tm_neg h]
    have e := Int.mul_ediv_add_emod (-a) b
    have h1 := Int.emod_nonneg (-a) (Int.ne_of_gt hb)
    have h2 := Int.emod_lt_of_pos (-a) hb
    generalize (-a) / b = q at *
    generalize (-a) % b = r at *
    constructor
    · intro hr
      have := (Int.ediv_emod_unique (a := a) (b := b) (r := b - r) (q := -q - 1) hb).2 ⟨by rw [Int.mul_sub, Int.mul_neg]; omega, by omega, by omega⟩
      omega
    · intro hr
      have := (Int.ediv_emod_unique (a := a) (b := b) (r := 0) (q := -q) hb).2 ⟨by rw [Int.mul_neg]; omega, by omega, by omega⟩
      omega
theorem tmod_bd (a : Int) {b : Int} (hb : 0 < b) : -b < Int.tmod a b ∧ Int.tmod a b < b := by
  have c := cut_floor a hb
  have h1 := Int.emod_nonneg a (Int.ne_of_gt hb)
  have h2 := Int.emod_lt_of_pos a hb
  by_cases h : Int.tmod a b < 0
  · have := (c.1 h).2.1; have := (c.1 h).2.2; omega
  · have := (c.2 h).2; omega
theorem ediv_i64 {a b : Int} (ha : I64 a) (hb : 0 < b) : -9223372036854775808 ≤ a / b ∧ a / b ≤ 9223372036854775807 := by
  obtain ⟨h1, h2⟩ := ha
  have e := Int.mul_ediv_add_emod a b
  have g1 := Int.emod_nonneg a (Int.ne_of_gt hb)
  have g2 := Int.emod_lt_of_pos a hb
  constructor
  · rw [Int.le_ediv_iff_mul_le hb]
    have : -9223372036854775808 * b ≤ -9223372036854775808 * 1 := Int.mul_le_mul_of_nonpos_left (by omega) (by omega)
    omega
  · rcases Int.lt_or_le a 0 with h | h
    · have : a / b < 0 := Int.ediv_lt_of_lt_mul hb (by omega)
      omega
    · have := Int.ediv_le_self b h; omega
theorem Ev.at1 {α : Type} {g : Nat → Option α} {r : α} (h : ∀ k, g (k + 1) = some r) : Ev g r :=
  ⟨1, fun k hk => by obtain ⟨m, rfl⟩ : ∃ m, k = m + 1 := ⟨k - 1, by omega⟩; exact h m⟩
theorem Ev.cast {α : Type} {g : Nat → Option α} {r r' : α} (h : Ev g r) (e : r = r') : Ev g r' := e ▸ h
/-- What is told without rounds, and then what hangs on rounds. -/
theorem Ev.bind0 {α β : Type} {g : Option α} {f : Nat → α → Option β} {a : α} {r : β} (h : g = some a) (k : Ev (fun n => f n a) r) : Ev (fun n => g.bind (f n)) r := by
  subst h; exact k
/-- One round, as it stands. -/
theorem Ev.succ {α : Type} {g : Nat → Option α} {r : α} (h : Ev (fun k => g (k + 1)) r) : Ev g r := Ev.step (f := fun k => g (k + 1)) (fun _ => rfl) h
theorem Ev.pos {α : Type} {c : Prop} [Decidable c] {f g : Nat → Option α} {r : α} (h : c) (k : Ev f r) : Ev (fun n => if c then f n else g n) r := by
  simpa only [if_pos h] using k
theorem Ev.neg {α : Type} {c : Prop} [Decidable c] {f g : Nat → Option α} {r : α} (h : ¬ c) (k : Ev g r) : Ev (fun n => if c then f n else g n) r := by
  simpa only [if_neg h] using k
end Go.Proofs.Ytkongoedgngfhaa.Civ
namespace Go.Proofs.Ytkongoedgngfhaa.Civ
set_option linter.unusedVariables false
set_option linter.unusedSimpArgs false
open Go.RowKit Go.Proofs.YtkongoedgngfhaaW.PrintWords Go.Proofs.YtkongoedgngfhaaW.PrintLast Go.Proofs.YtkongoedgngfhaaW.PrintMore Go.Proofs.Ytkongoedgngfhaa.P
theorem u64m (x : Int) : IntKind.u64.wrap x = x % 18446744073709551616 := by simp [IntKind.wrap, IntKind.bits, IntKind.signed]
theorem u64w {x : Int} (h1 : 0 ≤ x) (h2 : x ≤ 18446744073709551615) : IntKind.u64.wrap x = x := by rw [u64m]; omega
theorem wraps_u64 (n : Int) (h₀ : 0 ≤ n) (h₁ : n < 2 ^ 64) : IntKind.u64.wrap n = n := by rw [u64m]; omega
theorem and32 {x : Int} (h1 : 0 ≤ x) (h2 : x ≤ 18446744073709551615) : Go.bits .and .u64 x 4294967295 = x % 4294967296 :=
  bits_mask .u64 64 (by decide) wraps_u64 32 (by decide) x h1 (by omega)
end Go.Proofs.Ytkongoedgngfhaa.Civ
namespace Go.Proofs.Ytkongoedgngfhaa.Civ
set_option linter.unusedVariables false
set_option linter.unusedSimpArgs false
open Go.RowKit Go.Proofs.YtkongoedgngfhaaW.PrintWords Go.Proofs.YtkongoedgngfhaaW.PrintLast Go.Proofs.YtkongoedgngfhaaW.PrintMore Go.Proofs.Ytkongoedgngfhaa.P
instance (x : Int) : Decidable (I64 x) := inferInstanceAs (Decidable (_ ∧ _))
/-- A number, if it is one of 64 bits; else out of range. -/
def out (z : Int) : Int × Int := if I64 z then (z, 0) else (0, 10)
theorem out_in {z : Int} (h : I64 z) : out z = (z, 0) := if_pos h
theorem out_no {z : Int} (h : ¬ I64 z) : out z = (0, 10) := if_neg h
/-- Without a sign. -/
def ab (a : Int) : Int := if a < 0 then -a else a
theorem ab_bd {a : Int} (h : I64 a) : 0 ≤ ab a ∧ ab a ≤ 9223372036854775808 := by unfold ab; unfold I64 at h; split <;> omega
theorem ab_pos {a : Int} (h : 0 ≤ a) : ab a = a := by unfold ab; rw [if_neg (by omega)]
theorem ab_neg {a : Int} (h : a < 0) : ab a = -a := by unfold ab; rw [if_pos h]
theorem size_eq (a : Int) (ha : I64 a) : num_size.f a = some (ab a) := by
  unfold num_size.f ab
  unfold I64 at ha
  by_cases h : a < 0
  · rw [if_pos h, if_pos h, u64m, u64m]; congr 1; omega
  · rw [if_neg h, if_neg h, u64m]; congr 1; omega
theorem mul_bd {x y a b : Int} (hx : 0 ≤ x) (hxa : x ≤ a) (hy : 0 ≤ y) (hyb : y ≤ b) : 0 ≤ x * y ∧ x * y ≤ a * b :=
  ⟨Int.mul_nonneg hx hy, Int.mul_le_mul hxa hyb hy (by omega)⟩
theorem mul64_eq (x y : Int) (hx : 0 ≤ x) (hx1 : x ≤ 18446744073709551615) (hy : 0 ≤ y) (hy1 : y ≤ 18446744073709551615) :
    bits_Mul64.f x y = some (x * y / 18446744073709551616, x * y % 18446744073709551616) := by
  unfold bits_Mul64.f
  rw [and32 hx hx1, and32 hy hy1]
  have ex : x = x / 4294967296 * 4294967296 + x % 4294967296 := by omega
  have ey : y = y / 4294967296 * 4294967296 + y % 4294967296 := by omega
  have bx1 : 0 ≤ x / 4294967296 ∧ x / 4294967296 ≤ 4294967295 := by omega
  have bx0 : 0 ≤ x % 4294967296 ∧ x % 4294967296 ≤ 4294967295 := by omega
  have by1 : 0 ≤ y / 4294967296 ∧ y / 4294967296 ≤ 4294967295 := by omega
  have by0 : 0 ≤ y % 4294967296 ∧ y % 4294967296 ≤ 4294967295 := by omega
  have p11 := mul_bd bx1.1 bx1.2 by1.1 by1.2
  have p10 := mul_bd bx1.1 bx1.2 by0.1 by0.2
  have p01 := mul_bd bx0.1 bx0.2 by1.1 by1.2
  have p00 := mul_bd bx0.1 bx0.2 by0.1 by0.2
  have e : x * y = x / 4294967296 * (y / 4294967296) * 18446744073709551616 + (x / 4294967296 * (y % 4294967296) + x % 4294967296 * (y / 4294967296)) * 4294967296 + x % 4294967296 * (y % 4294967296) := by
    conv => lhs; rw [ex, ey]
    simp only [Int.mul_add, Int.add_mul]
    have c1 : x / 4294967296 * 4294967296 * (y / 4294967296 * 4294967296) = x / 4294967296 * (y / 4294967296) * 18446744073709551616 := by
      rw [Int.mul_assoc, Int.mul_left_comm 4294967296, ← Int.mul_assoc (x / 4294967296)]; rfl
    have c2 : x % 4294967296 * (y / 4294967296 * 4294967296) = x % 4294967296 * (y / 4294967296) * 4294967296 := by rw [Int.mul_assoc]
    have c3 : x / 4294967296 * 4294967296 * (y % 4294967296) = x / 4294967296 * (y % 4294967296) * 4294967296 := by rw [Int.mul_assoc, Int.mul_comm 4294967296, ← Int.mul_assoc]
    rw [c1, c2, c3]; omega
  generalize x * y = P at *
  generalize x / 4294967296 * (y / 4294967296) = P11 at *
  generalize x / 4294967296 * (y % 4294967296) = P10 at *
  generalize x % 4294967296 * (y / 4294967296) = P01 at *
  generalize x % 4294967296 * (y % 4294967296) = P00 at *
  clear ex ey bx1 bx0 by1 by0 hx hx1 hy hy1
  rw [u64w (x := P11) (by omega) (by omega), u64w (x := P10) (by omega) (by omega), u64w (x := P00) (by omega) (by omega), u64w (x := P01) (by omega) (by omega)]
  have t : 0 ≤ P00 / 4294967296 ∧ P00 / 4294967296 ≤ 4294967295 := by omega
  rw [u64w (x := P10 + P00 / 4294967296) (by omega) (by omega), and32 (by omega) (by omega)]
  obtain ⟨T, hT⟩ : ∃ T, P10 + P00 / 4294967296 = T := ⟨_, rfl⟩
  rw [hT]
  rw [u64w (x := T % 4294967296 + P01) (by omega) (by omega), u64w (x := P11 + T / 4294967296) (by omega) (by omega), u64w (x := P11 + T / 4294967296 + (T % 4294967296 + P01) / 4294967296) (by omega) (by omega), u64m]
  congr 2
  omega
theorem product_eq (a b : Int) (ha : I64 a) (hb : I64 b) : num_product.f a b = some (ab a * ab b / 18446744073709551616, ab a * ab b % 18446744073709551616) := by
  have h1 := ab_bd ha
  have h2 := ab_bd hb
  unfold num_product.f
  rw [size_eq a ha, size_eq b hb]
  simp only [Option.bind_some]
  rw [mul64_eq _ _ h1.1 (by omega) h2.1 (by omega)]
  rfl
theorem signed_eq (k : Nat) (neg : Bool) (hi lo : Int) (h0 : 0 ≤ hi) (h1 : 0 ≤ lo) (h2 : lo ≤ 18446744073709551615) :
    num_signed.f (k + 1) neg hi lo = some (out (if neg = true then -(hi * 18446744073709551616 + lo) else hi * 18446744073709551616 + lo)) := by
  unfold num_signed.f
  by_cases hh : hi = 0
  · subst hh
    rw [if_pos rfl]
    cases neg with
    | true =>
      simp only [if_true, num_signed.j0]
      by_cases g : lo ≤ 9223372036854775808
      · rw [decide_eq_true g, if_pos rfl, out_in (by unfold I64; omega), u64m]
        congr 2; unfold wrap64; omega
      · rw [decide_eq_false g, if_neg (by simp), out_no (by unfold I64; omega)]
    | false =>
      simp only [num_signed.j0, Bool.false_eq_true, if_false]
      by_cases g : lo > 9223372036854775807
      · rw [if_pos g, out_no (by unfold I64; omega)]
      · rw [if_neg g, out_in (by unfold I64; omega), w64 (by omega) (by omega)]
        congr 2; omega
  · rw [if_neg hh]
    cases neg with
    | true => rw [if_pos rfl, out_no (by unfold I64; omega)]
    | false => rw [if_neg (by simp), out_no (by unfold I64; omega)]
/-- The sign of a product. -/
theorem mul_sign (a b : Int) : (if ((decide (a < 0)) != (decide (b < 0))) = true then -(ab a * ab b) else ab a * ab b) = a * b := by
  by_cases h1 : a < 0
  · by_cases h2 : b < 0
    · rw [decide_eq_true h1, decide_eq_true h2, if_neg (by simp), ab_neg h1, ab_neg h2, Int.neg_mul_neg]
    · rw [decide_eq_true h1, decide_eq_false h2, if_pos (by simp), ab_neg h1, ab_pos (by omega), Int.neg_mul, Int.neg_neg]
  · by_cases h2 : b < 0
    · rw [decide_eq_false h1, decide_eq_true h2, if_pos (by simp), ab_pos (by omega), ab_neg h2, Int.mul_neg, Int.neg_neg]
    · rw [decide_eq_false h1, decide_eq_false h2, if_neg (by simp), ab_pos (by omega), ab_pos (by omega)]
theorem mul_eq (k : Nat) (a b : Int) (ha : I64 a) (hb : I64 b) : num_Mul.f (k + 1) a b = some (out (a * b)) := by
  have h1 := ab_bd ha
  have h2 := ab_bd hb
  have h3 := mul_bd h1.1 h1.2 h2.1 h2.2
  unfold num_Mul.f
  rw [product_eq a b ha hb]
  simp only [Option.bind_some]
  rw [signed_eq _ _ _ _ (by omega) (by omega) (by omega)]
  simp only [Option.bind_some]
  rw [show ab a * ab b / 18446744073709551616 * 18446744073709551616 + ab a * ab b % 18446744073709551616 = ab a * ab b by omega, mul_sign]
/-- How often, the greatest whole number that is not above; what is left. -/
def fl (a b : Int) : Int := if b < 0 then (-a) / (-b) else a / b
def md (a b : Int) : Int := if b < 0 then -((-a) % (-b)) else a % b
theorem fl_unique {a b q r : Int} (h : a = b * q + r) (hr : (0 ≤ r ∧ r < b) ∨ (b < r ∧ r ≤ 0)) : fl a b = q ∧ md a b = r := by
  unfold fl md
  by_cases hb : b < 0
  · rw [if_pos hb, if_pos hb]
    have := (Int.ediv_emod_unique (a := -a) (b := -b) (r := -r) (q := q) (by omega)).2 ⟨by rw [Int.neg_mul]; omega, by omega, by omega⟩
    omega
  · rw [if_neg hb, if_neg hb]
    have := (Int.ediv_emod_unique (a := a) (b := b) (r := r) (q := q) (by omega)).2 ⟨by omega, by omega, by omega⟩
    omega
theorem div64_small (k : Nat) (lo y : Int) (h0 : 0 < y) (h1 : 0 ≤ lo) (h2 : lo ≤ 18446744073709551615) : bits_Div64.f k 0 lo y = some (lo / y, lo % y) := by
  unfold bits_Div64.f
  rw [if_neg (by omega), if_neg (by omega), if_pos rfl, td_pos h1, tm_pos h1]
  have := Int.ediv_le_self y h1
  have := Int.ediv_nonneg h1 (b := y) (by omega)
  rw [u64w (by omega) (by omega)]
/-- Of a product without signs, and how often a number without a sign is there: with the signs. -/
theorem fl_signs {a b c P D : Int} (hP : ab a * ab b = P) (hD : ab c = D) (hc : c ≠ 0) :
    fl (a * b) c = if (((decide (a < 0)) != (decide (b < 0))) != (decide (c < 0))) = true then (if P % D = 0 then -(P / D) else -(P / D) - 1) else P / D := by
  have hs := mul_sign a b
  rw [hP] at hs
  have hD0 : 0 < D := by rw [← hD]; unfold ab; split <;> omega
  have e := Int.mul_ediv_add_emod P D
  have r0 := Int.emod_nonneg P (Int.ne_of_gt hD0)
  have r1 := Int.emod_lt_of_pos P hD0
  have hP0 : ((decide (a < 0)) != (decide (b < 0))) = true → a * b = -P := fun h => by rw [if_pos h] at hs; exact hs.symm
  have hP1 : ((decide (a < 0)) != (decide (b < 0))) = false → a * b = P := fun h => by rw [if_neg (by rw [h]; simp)] at hs; exact hs.symm
  generalize ((decide (a < 0)) != (decide (b < 0))) = s at *
  generalize P / D = q at *
  generalize P % D = r at *
  have em : D * (q + 1) = D * q + D := by rw [Int.mul_add, Int.mul_one]
  by_cases h3 : c < 0
  · rw [ab_neg h3] at hD
    rw [decide_eq_true h3]
    cases s with
    | true =>
      rw [if_neg (by simp), hP0 rfl]
      exact (fl_unique (r := -r) (by rw [← e, show c = -D by omega, Int.neg_mul]; omega) (by omega)).1
    | false =>
      rw [if_pos (by simp), hP1 rfl]
      by_cases hr : r = 0
      · rw [if_pos hr]
        exact (fl_unique (r := 0) (by rw [← e, show c = -D by omega, Int.neg_mul_neg]; omega) (by omega)).1
      · rw [if_neg hr]
        exact (fl_unique (r := r - D) (by rw [← e, show c = -D by omega, show -q - 1 = -(q + 1) by omega, Int.neg_mul_neg]; omega) (by omega)).1
  · rw [ab_pos (by omega)] at hD
    subst hD
    rw [decide_eq_false h3]
    cases s with
    | true =>
      rw [if_pos (by simp), hP0 rfl]
      by_cases hr : r = 0
      · rw [if_pos hr]
        exact (fl_unique (r := 0) (by rw [← e, Int.mul_neg]; omega) (by omega)).1
      · rw [if_neg hr]
        exact (fl_unique (r := c - r) (by rw [← e, show -q - 1 = -(q + 1) by omega, Int.mul_neg]; omega) (by omega)).1
    | false =>
      rw [if_neg (by simp), hP1 rfl]
      exact (fl_unique (r := r) (by omega) (by omega)).1
theorem add64_eq (x : Int) (h0 : 0 ≤ x) : bits_Add64.f x 1 0 = some ((x + 1) % 18446744073709551616, (x + 1) / 18446744073709551616) := by
  unfold bits_Add64.f
  rw [if_pos h0, if_pos (by omega), if_pos (by omega), if_pos (by omega), Int.add_zero]
/-- One number times another one, and how often a third one is there: if the division of 128 bits by 64 is as it is. -/
theorem scale_of (k : Nat) (a b c : Int) (ha : I64 a) (hb : I64 b) (hc : I64 c) (h0 : c ≠ 0)
    (hd : ab a * ab b / 18446744073709551616 < ab c → bits_Div64.f (k + 1) (ab a * ab b / 18446744073709551616) (ab a * ab b % 18446744073709551616) (ab c) = some (ab a * ab b / ab c, ab a * ab b % ab c)) :
    num_Scale.f (k + 1) a b c = some (out (fl (a * b) c)) := by
  have h1 := ab_bd ha
  have h2 := ab_bd hb
  have h3 := ab_bd hc
  have h4 := mul_bd h1.1 h1.2 h2.1 h2.2
  have hD0 : 0 < ab c := by unfold ab; split <;> omega
  rw [fl_signs rfl rfl h0]
  unfold num_Scale.f
  rw [if_neg h0, product_eq a b ha hb, size_eq c hc]
  simp only [Option.bind_some]
  generalize hP : ab a * ab b = P at *
  generalize hD : ab c = D at *
  have e := Int.mul_ediv_add_emod P D
  have r0 := Int.emod_nonneg P (Int.ne_of_gt hD0)
  have r1 := Int.emod_lt_of_pos P hD0
  have q0 : 0 ≤ P / D := Int.ediv_nonneg h4.1 (by omega)
  by_cases hl : P / 18446744073709551616 ≥ D
  · rw [if_pos hl]
    have hq : 18446744073709551616 ≤ P / D := by
      rw [Int.le_ediv_iff_mul_le hD0]; omega
    split
    · split
      · rw [out_no (by unfold I64; omega)]
      · rw [out_no (by unfold I64; omega)]
    · rw [out_no (by unfold I64; omega)]
  · rw [if_neg hl, hd (by omega)]
    simp only [Option.bind_some]
    have hq : P / D < 18446744073709551616 := Int.ediv_lt_of_lt_mul hD0 (by omega)
    generalize P / D = q at *
    generalize P % D = r at *
    by_cases hs : (((decide (a < 0)) != (decide (b < 0))) != (decide (c < 0))) = true
    · rw [if_pos hs, if_pos hs, hs]
      by_cases hr : r = 0
      · rw [if_pos hr, if_pos hr, signed_eq _ _ _ _ (by omega) (by omega) (by omega), if_pos rfl]
        simp only [Option.bind_some]
        rw [show (0 : Int) * 18446744073709551616 + q = q by omega]
      · rw [if_neg hr, if_neg hr, add64_eq _ q0]
        simp only [Option.bind_some]
        rw [signed_eq _ _ _ _ (by omega) (by omega) (by omega), if_pos rfl]
        simp only [Option.bind_some]
        rw [show (q + 1) / 18446744073709551616 * 18446744073709551616 + (q + 1) % 18446744073709551616 = q + 1 by omega, show -(q + 1) = -q - 1 by omega]
    · rw [if_neg hs, if_neg hs, signed_eq _ _ _ _ (by omega) (by omega) (by omega), if_neg hs]
      simp only [Option.bind_some]
      rw [show (0 : Int) * 18446744073709551616 + q = q by omega]
theorem div_eq (k : Nat) (a c : Int) (ha : I64 a) (hc : I64 c) (h0 : c ≠ 0) : num_Div.f (k + 1) a c = some (out (fl a c)) := by
  have h1 := ab_bd ha
  have h3 := ab_bd hc
  have hD0 : 0 < ab c := by unfold ab; split <;> omega
  unfold num_Div.f
  rw [scale_of k a 1 c ha (by unfold I64; omega) hc h0 (fun _ => ?_)]
  · simp only [Option.bind_some, Int.mul_one]
  · rw [ab_pos (a := 1) (by omega), Int.mul_one, show ab a / 18446744073709551616 = 0 by omega, show ab a % 18446744073709551616 = ab a by omega]
    exact div64_small _ _ _ hD0 h1.1 (by omega)
theorem mod_eq (a b : Int) (ha : I64 a) (hb : I64 b) (h0 : b ≠ 0) : num_Mod.f a b = some (md a b, 0) := by
  unfold num_Mod.f
  rw [if_neg h0]
  by_cases h1 : b = -1
  · rw [if_pos h1]
    have : md a b = 0 := by unfold md; rw [if_pos (by omega), h1]; simp
    rw [this]
  rw [if_neg h1]
  unfold I64 at hb
  by_cases hs : b < 0
  · -- the remainder of a cut division has the sign of a
    have e : Int.tmod a b = Int.tmod a (-b) := by rw [Int.tmod_neg]
    have c := cut_floor a (b := -b) (by omega)
    have g1 := Int.emod_nonneg a (b := -b) (by omega)
    have g2 := Int.emod_lt_of_pos a (b := -b) (by omega)
    have e2 : md a b = if a % (-b) = 0 then 0 else a % (-b) + b := by
      have d := Int.mul_ediv_add_emod a (-b)
      split
      · rename_i hz
        exact (fl_unique (q := -(a / -b)) (by rw [Int.mul_neg, ← Int.neg_mul]; omega) (by omega)).2
      · exact (fl_unique (q := -(a / -b) - 1) (by rw [show -(a / -b) - 1 = -((a / -b) + 1) by omega, Int.mul_neg, ← Int.neg_mul, Int.mul_add]; omega) (by omega)).2
    rw [e, e2]
    by_cases hn : Int.tmod a (-b) < 0
    · obtain ⟨c1, c2, c3⟩ := c.1 hn
      rw [if_neg (by omega), if_neg (show ¬ a % (-b) = 0 by omega), decide_eq_true hn, decide_eq_true hs, if_neg (by simp)]
      congr 2; omega
    · obtain ⟨c1, c2⟩ := c.2 hn
      rw [c2]
      by_cases hz : a % (-b) = 0
      · rw [if_pos hz, if_pos hz, hz]
      · rw [if_neg hz, if_neg hz, decide_eq_false (show ¬ a % (-b) < 0 by omega), decide_eq_true hs, if_pos (by simp), w64 (by omega) (by omega)]
  · have c := cut_floor a (b := b) (by omega)
    have g1 := Int.emod_nonneg a (b := b) (by omega)
    have g2 := Int.emod_lt_of_pos a (b := b) (by omega)
    have e2 : md a b = a % b := by unfold md; rw [if_neg hs]
    rw [e2]
    by_cases hn : Int.tmod a b < 0
    · obtain ⟨c1, c2, c3⟩ := c.1 hn
      rw [if_neg (by omega), decide_eq_true hn, decide_eq_false hs, if_pos (by simp), w64 (by omega) (by omega)]
      congr 2; omega
    · obtain ⟨c1, c2⟩ := c.2 hn
      rw [c2]
      by_cases hz : a % b = 0
      · rw [if_pos hz]
      · rw [if_neg hz, decide_eq_false (show ¬ a % b < 0 by omega), decide_eq_false hs, if_neg (by simp)]
theorem fl_pos {a b : Int} (h : 0 < b) : fl a b = a / b := by unfold fl; rw [if_neg (by omega)]
theorem md_pos {a b : Int} (h : 0 < b) : md a b = a % b := by unfold md; rw [if_neg (by omega)]
end Go.Proofs.Ytkongoedgngfhaa.Civ
namespace Go.Proofs.Ytkongoedgngfhaa.Civ
set_option linter.unusedVariables false
set_option linter.unusedSimpArgs false
open Go.RowKit Go.Proofs.YtkongoedgngfhaaW.PrintWords Go.Proofs.YtkongoedgngfhaaW.PrintLast Go.Proofs.YtkongoedgngfhaaW.PrintMore Go.Proofs.Ytkongoedgngfhaa.P
def p10 (k : Int) : Int := if k = 0 then 1 else if k = 1 then 10 else if k = 2 then 100 else if k = 3 then 1000 else if k = 4 then 10000 else if k = 5 then 100000 else if k = 6 then 1000000 else if k = 7 then 10000000 else if k = 8 then 100000000 else 1000000000
theorem ten_cases {k : Int} (h : 0 ≤ k ∧ k ≤ 9) : k = 0 ∨ k = 1 ∨ k = 2 ∨ k = 3 ∨ k = 4 ∨ k = 5 ∨ k = 6 ∨ k = 7 ∨ k = 8 ∨ k = 9 := by omega
theorem p10_bd (k : Int) : 1 ≤ p10 k ∧ p10 k ≤ 1000000000 := by
  unfold p10
  repeat' split
  all_goals omega
theorem ten_eq {k : Int} (h : 0 ≤ k ∧ k ≤ 9) : dec_ten.f k = some (p10 k) := by
  rcases ten_cases h with rfl | rfl | rfl | rfl | rfl | rfl | rfl | rfl | rfl | rfl <;> rfl
def DOk (s : Int) : Prop := 0 ≤ s ∧ s ≤ 9
instance (s : Int) : Decidable (DOk s) := inferInstanceAs (Decidable (_ ∧ _))
theorem dcright_eq (n s : Int) : dec_Right.f n s = some (decide (DOk s)) := by
  unfold dec_Right.f
  by_cases h : s ≥ 0
  · rw [if_pos h]; congr 1; apply decide_eq_decide.2; unfold DOk; omega
  · rw [if_neg h, decide_eq_false (by unfold DOk; omega)]
theorem rdcright_eq (n s : Int) : computusref04_Right.f n s = some (decide (DOk s)) := by
  unfold computusref04_Right.f
  by_cases h : s ≥ 0
  · rw [if_pos h]; congr 1; apply decide_eq_decide.2; unfold DOk; omega
  · rw [if_neg h, decide_eq_false (by unfold DOk; omega)]
theorem i64_p10 (k : Int) : I64 (p10 k) := by have := p10_bd k; unfold I64; omega
/-- A number at a scale that is so much greater. -/
def tox (n s t : Int) : Int × Int × Int := if I64 (n * p10 (t - s)) then (n * p10 (t - s), t, 0) else (0, 0, 10)
theorem to_eq (k : Nat) {n s t : Int} (hn : I64 n) (hs : DOk s) (ht : DOk t) (h : s ≤ t) : dec_Dec_to.f (k + 1) n s t = some (tox n s t) := by
  unfold dec_Dec_to.f tox
  unfold DOk at hs ht
  rw [w64 (x := t - s) (by omega) (by omega), ten_eq (by omega)]
  simp only [Option.bind_some]
  rw [mul_eq k n _ hn (i64_p10 _)]
  simp only [Option.bind_some]
  by_cases g : I64 (n * p10 (t - s))
  · rw [out_in g, if_pos rfl, if_pos g]
  · rw [out_no g, if_neg (by decide), if_neg g]
end Go.Proofs.Ytkongoedgngfhaa.Civ
namespace Go.Proofs.Ytkongoedgngfhaa.Civ
set_option linter.unusedVariables false
set_option linter.unusedSimpArgs false
open Go.RowKit Go.Proofs.Ytkongoedgngfhaa.P Go.Proofs.YtkongoedgngfhaaW.PrintWords Go.Proofs.YtkongoedgngfhaaW.PrintLast
theorem known_ev : Ev (fun k => computuslaw04_known.f k) true := Ev.of computuslaw04_known.mono (k := 12) (by decide +kernel)
theorem known_end : Ev (fun k => (computuslaw04_known.f k).bind fun t => some t) true := Ev.bind known_ev (Ev.now _)
end Go.Proofs.Ytkongoedgngfhaa.Civ
namespace Go.Proofs.Ytkongoedgngfhaa.Civ
set_option linter.unusedVariables false
set_option linter.unusedSimpArgs false
open Go.RowKit Go.Proofs.YtkongoedgngfhaaW.PrintWords Go.Proofs.YtkongoedgngfhaaW.PrintLast Go.Proofs.YtkongoedgngfhaaW.PrintMore Go.Proofs.Ytkongoedgngfhaa.P
theorem p10_even {k : Int} (h : 1 ≤ k ∧ k ≤ 9) : ∃ u, p10 k = 2 * u ∧ 5 ≤ u ∧ u ≤ 500000000 := by
  have : k = 1 ∨ k = 2 ∨ k = 3 ∨ k = 4 ∨ k = 5 ∨ k = 6 ∨ k = 7 ∨ k = 8 ∨ k = 9 := by omega
  rcases this with rfl | rfl | rfl | rfl | rfl | rfl | rfl | rfl | rfl
  · exact ⟨5, by decide, by decide, by decide⟩
  · exact ⟨50, by decide, by decide, by decide⟩
  · exact ⟨500, by decide, by decide, by decide⟩
  · exact ⟨5000, by decide, by decide, by decide⟩
  · exact ⟨50000, by decide, by decide, by decide⟩
  · exact ⟨500000, by decide, by decide, by decide⟩
  · exact ⟨5000000, by decide, by decide, by decide⟩
  · exact ⟨50000000, by decide, by decide, by decide⟩
  · exact ⟨500000000, by decide, by decide, by decide⟩
/-- The nearest whole part; halves go away from zero. -/
def near (n U : Int) : Int := if U ≤ 2 * Int.tmod n U then Int.tdiv n U + 1 else if 2 * Int.tmod n U ≤ -U then Int.tdiv n U - 1 else Int.tdiv n U
def rndD (n s t : Int) : Int × Int × Int := if DOk s ∧ DOk t then (if s ≤ t then tox n s t else (near n (p10 (s - t)), t, 0)) else (0, 0, 1)
theorem tdiv_bd {n u : Int} (hn : I64 n) (h5 : 5 ≤ u) : -1000000000000000000 ≤ Int.tdiv n (2 * u) ∧ Int.tdiv n (2 * u) ≤ 1000000000000000000 := by
  unfold I64 at hn
  have key : ∀ m : Int, 0 ≤ m → m ≤ 9223372036854775808 → 0 ≤ m / (2 * u) ∧ m / (2 * u) ≤ 1000000000000000000 := fun m h0 h1 => by
    refine ⟨Int.ediv_nonneg h0 (by omega), ?_⟩
    have : m / (2 * u) ≤ m / 10 := by
      rw [Int.le_ediv_iff_mul_le (by omega)]
      have e := Int.mul_ediv_add_emod m (2 * u)
      have e2 := Int.emod_nonneg m (b := 2 * u) (by omega)
      have e3 : 0 ≤ m / (2 * u) := Int.ediv_nonneg h0 (by omega)
      have e4 : m / (2 * u) * 10 ≤ m / (2 * u) * (2 * u) := Int.mul_le_mul_of_nonneg_left (by omega) e3
      rw [Int.mul_comm (m / (2 * u)) (2 * u)] at e4
      omega
    omega
  rcases Int.le_total 0 n with h | h
  · rw [td_pos h]; have := key n h (by omega); omega
  · rw [td_neg h]; have := key (-n) (by omega) (by omega); omega
theorem rnd_mid {n U u : Int} (hn : I64 n) (e : U = 2 * u) (h5 : 5 ≤ u) (h9 : u ≤ 500000000) : ∃ q r, q = Int.tdiv n U ∧ r = Int.tmod n U ∧ (-1000000000000000000 ≤ q ∧ q ≤ 1000000000000000000) ∧ (-U < r ∧ r < U) := by
  refine ⟨_, _, rfl, rfl, ?_, tmod_bd n (by omega)⟩
  rw [e]; exact tdiv_bd hn h5
theorem round_low {n s t : Int} (k : Nat) (hn : I64 n) (hs : DOk s) (ht : DOk t) (h : ¬ s ≤ t) : dec_Round.j0 (k + 1) t false n s = some (near n (p10 (s - t)), t, 0) := by
  unfold DOk at hs ht
  simp only [dec_Round.j0, Bool.false_eq_true, if_false]
  rw [if_neg (by omega), w64 (x := s - t) (by omega) (by omega), ten_eq (by omega)]
  simp only [Option.bind_some]
  obtain ⟨u, e, h5, h9⟩ := p10_even (k := s - t) (by omega)
  obtain ⟨q, r, hq, hr, bq, br⟩ := rnd_mid hn e h5 h9
  rw [if_neg (by omega)]
  unfold near
  rw [← hq, ← hr]
  generalize p10 (s - t) = U at *
  rw [w64 (x := -r) (by omega) (by omega), w64 (x := q) (by omega) (by omega), w64 (x := q + 1) (by omega) (by omega), w64 (x := q - 1) (by omega) (by omega)]
  have hm : mx r (-r) = if 0 ≤ r then r else -r := by unfold mx; split <;> split <;> omega
  rw [hm]
  by_cases h0 : 0 ≤ r
  · rw [if_pos h0, w64 (x := 2 * r) (by omega) (by omega)]
    by_cases h1 : U ≤ 2 * r
    · rw [if_pos (by omega), if_pos (by omega), if_pos h1]
    · rw [if_neg (by omega), if_neg h1, if_neg (by omega)]
  · rw [if_neg h0, w64 (x := 2 * -r) (by omega) (by omega)]
    by_cases h1 : 2 * r ≤ -U
    · rw [if_pos (by omega), if_neg (by omega), if_neg (by omega), if_pos h1]
    · rw [if_neg (by omega), if_neg (by omega), if_neg h1]
theorem round_ev {n s t : Int} (hn : I64 n) : Ev (fun k => dec_Round.f k n s t) (rndD n s t) := by
  unfold dec_Round.f rndD
  refine Ev.bind0 (dcright_eq n s) ?_
  by_cases h1 : DOk s
  · refine Ev.pos (decide_eq_true h1) ?_
    by_cases h2 : DOk t
    · have h12 : DOk s ∧ DOk t := ⟨h1, h2⟩
      rw [if_pos h12]
      have h2' := h2
      unfold DOk at h2'
      refine Ev.neg (by omega) ?_
      rw [decide_eq_false (by omega)]
      by_cases h3 : s ≤ t
      · rw [if_pos h3]
        refine Ev.succ ?_
        simp only [dec_Round.j0, Bool.false_eq_true, if_false]
        refine Ev.pos h3 (Ev.bind (Ev.at1 fun k => to_eq k hn h1 h2 h3) ?_)
        exact Ev.now _
      · rw [if_neg h3]
        exact Ev.at1 fun k => round_low k hn h1 h2 h3
    · have h12 : ¬ (DOk s ∧ DOk t) := fun f => h2 f.2
      rw [if_neg h12]
      by_cases h0 : t < 0
      · refine Ev.pos h0 (Ev.succ ?_)
        simp only [dec_Round.j0, if_true]
        exact Ev.now _
      · refine Ev.neg h0 ?_
        rw [decide_eq_true (by unfold DOk at h2; omega)]
        refine Ev.succ ?_
        simp only [dec_Round.j0, if_true]
        exact Ev.now _
  · have h12 : ¬ (DOk s ∧ DOk t) := fun f => h1 f.1
    rw [if_neg h12]
    refine Ev.neg (by rw [decide_eq_false h1]; simp) (Ev.succ ?_)
    simp only [dec_Round.j0, if_true]
    exact Ev.now _
theorem p10_pos (k : Int) : 0 < p10 k := by have := p10_bd k; omega
theorem floor_i64 {n : Int} (hn : I64 n) (k : Int) : I64 (n / p10 k) := ediv_i64 hn (p10_pos k)
def splD (n s : Int) : Int × Int := (n / p10 s, n % p10 s * p10 (9 - s))
theorem frac_bd (n : Int) {s : Int} (hs : DOk s) : 0 ≤ n % p10 s * p10 (9 - s) ∧ n % p10 s * p10 (9 - s) < 1000000000 := by
  have h0 := Int.emod_nonneg n (b := p10 s) (by have := p10_pos s; omega)
  have h1 := Int.emod_lt_of_pos n (p10_pos s)
  rcases ten_cases hs with rfl | rfl | rfl | rfl | rfl | rfl | rfl | rfl | rfl | rfl <;> simp [p10] at h0 h1 ⊢ <;> omega
theorem split_ev {n s : Int} (hn : I64 n) (hs : DOk s) : Ev (fun k => dec_Dec_split.f k n s) (splD n s) := by
  unfold dec_Dec_split.f
  have hp := p10_pos s
  refine Ev.bind0 (ten_eq hs) (Ev.bind (Ev.at1 fun k => div_eq k n _ hn (i64_p10 s) (by omega)) (Ev.bind0 (ten_eq hs) (Ev.bind0 (mod_eq n _ hn (i64_p10 s) (by omega)) ?_)))
  have hs' := hs
  unfold DOk at hs'
  rw [w64 (x := 9 - s) (by omega) (by omega)]
  refine Ev.bind0 (ten_eq (by omega)) (Ev.cast (Ev.now _) ?_)
  have hb := frac_bd n hs
  rw [fl_pos hp, md_pos hp, out_in (floor_i64 hn s)]
  show (n / p10 s, wrap64 (n % p10 s * p10 (9 - s))) = _
  rw [w64 (by omega) (by omega)]
  rfl
def flrD (n s : Int) : Int × Int := if DOk s then (n / p10 s, 0) else (0, 1)
theorem floor_ev {n s : Int} (hn : I64 n) : Ev (fun k => dec_Floor.f k n s) (flrD n s) := by
  unfold dec_Floor.f flrD
  refine Ev.bind0 (dcright_eq n s) ?_
  by_cases h : DOk s
  · rw [if_pos h]
    exact Ev.pos (decide_eq_true h) (Ev.bind (split_ev hn h) (Ev.now _))
  · rw [if_neg h]
    exact Ev.neg (by rw [decide_eq_false h]; simp) (Ev.now _)
/-- How two numbers stand. -/
def ordD (n s m r : Int) : Int :=
  if DOk s ∧ DOk r then (if splD n s = splD m r then 0 else if n / p10 s = m / p10 r then (if (splD n s).2 < (splD m r).2 then -1 else 1) else if n / p10 s < m / p10 r then -1 else 1) else 0
theorem compare_eq (a b : Int) : cmp_Compare_int64.f a b = some (if a < b then -1 else if a > b then 1 else 0) := by
  unfold cmp_Compare_int64.f
  have e : ∀ x, cmp_isNaN_int64.f x = some false := fun x => by unfold cmp_isNaN_int64.f; simp
  rw [e, e]
  simp only [Option.bind_some, Bool.false_eq_true, if_false]
  repeat' split
  all_goals rfl
theorem cmpD_ev {n s m r : Int} (hn : I64 n) (hm : I64 m) : Ev (fun k => dec_Cmp.f k n s m r) (ordD n s m r) := by
  unfold dec_Cmp.f ordD
  refine Ev.bind0 (dcright_eq n s) ?_
  by_cases h1 : DOk s
  · refine Ev.pos (decide_eq_true h1) (Ev.bind0 (dcright_eq m r) (Ev.succ ?_))
    by_cases h2 : DOk r
    · have h12 : DOk s ∧ DOk r := ⟨h1, h2⟩
      rw [if_pos h12, decide_eq_true h2]
      simp only [dec_Cmp.j0, Bool.not_true, Bool.false_eq_true, if_false]
      refine Ev.bind (split_ev hn h1) (Ev.bind (split_ev hm h2) ?_)
      by_cases he : splD n s = splD m r
      · rw [if_pos he, he]
        exact Ev.pos (by simp) (Ev.now _)
      · rw [if_neg he]
        refine Ev.neg (fun g => he ?_) ?_
        · simp only [Bool.and_eq_true, beq_iff_eq] at g
          exact Prod.ext g.1 g.2
        · by_cases hf : n / p10 s = m / p10 r
          · rw [if_pos hf]
            refine Ev.pos hf (Ev.bind0 (compare_eq _ _) (Ev.cast (Ev.now _) ?_))
            by_cases hl : (splD n s).2 < (splD m r).2
            · rw [if_pos hl, if_pos hl]
            · have hne : (splD n s).2 ≠ (splD m r).2 := fun g => he (Prod.ext hf g)
              rw [if_neg hl, if_neg hl, if_pos (by omega)]
          · rw [if_neg hf]
            refine Ev.neg hf (Ev.bind0 (compare_eq _ _) (Ev.cast (Ev.now _) ?_))
            have e1 : (splD n s).1 = n / p10 s := rfl
            have e2 : (splD m r).1 = m / p10 r := rfl
            rw [e1, e2]
            by_cases hl : n / p10 s < m / p10 r
            · rw [if_pos hl, if_pos hl]
            · rw [if_neg hl, if_neg hl, if_pos (by omega)]
    · have h12 : ¬ (DOk s ∧ DOk r) := fun f => h2 f.2
      rw [if_neg h12, decide_eq_false h2]
      simp only [dec_Cmp.j0, Bool.not_false, if_true]
      exact Ev.now _
  · have h12 : ¬ (DOk s ∧ DOk r) := fun f => h1 f.1
    rw [if_neg h12]
    refine Ev.neg (by rw [decide_eq_false h1]; simp) (Ev.succ ?_)
    simp only [dec_Cmp.j0, if_true]
    exact Ev.now _
end Go.Proofs.Ytkongoedgngfhaa.Civ
namespace Go.Proofs.Ytkongoedgngfhaa.Civ
set_option linter.unusedVariables false
set_option linter.unusedSimpArgs false
open Go.RowKit Go.Proofs.YtkongoedgngfhaaW.PrintWords Go.Proofs.YtkongoedgngfhaaW.PrintLast Go.Proofs.YtkongoedgngfhaaW.PrintMore Go.Proofs.Ytkongoedgngfhaa.P
def vl (n s : Int) : Int := n * p10 (9 - s)
theorem p10_up {s t : Int} (hs : DOk s) (ht : DOk t) (h : t ≤ s) : p10 (9 - t) = p10 (s - t) * p10 (9 - s) := by
  rcases ten_cases hs with rfl | rfl | rfl | rfl | rfl | rfl | rfl | rfl | rfl | rfl <;> rcases ten_cases ht with rfl | rfl | rfl | rfl | rfl | rfl | rfl | rfl | rfl | rfl <;> first | rfl | omega
theorem vl_spl (n : Int) {s : Int} (hs : DOk s) : splD n s = (vl n s / 1000000000, vl n s % 1000000000) := by
  unfold splD vl
  rcases ten_cases hs with rfl | rfl | rfl | rfl | rfl | rfl | rfl | rfl | rfl | rfl <;> simp [p10] <;> (try constructor) <;> omega
theorem ord_iff {n s m r : Int} (hs : DOk s) (hr : DOk r) : ordD n s m r ≤ 0 ↔ vl n s ≤ vl m r := by
  have hh : DOk s ∧ DOk r := ⟨hs, hr⟩
  have e1 : n / p10 s = vl n s / 1000000000 := congrArg Prod.fst (vl_spl n hs)
  have e2 : m / p10 r = vl m r / 1000000000 := congrArg Prod.fst (vl_spl m hr)
  unfold ordD
  rw [if_pos hh, e1, e2, vl_spl n hs, vl_spl m hr]
  generalize vl n s = a
  generalize vl m r = b
  simp only [Prod.mk.injEq]
  repeat' split
  all_goals omega
/-- Halves away from nought, by whole division. -/
theorem near_eq (n : Int) {U : Int} (hU : 0 < U) : near n U = if 0 ≤ n then (2 * n + U) / (2 * U) else -((-2 * n + U) / (2 * U)) := by
  unfold near
  have key : ∀ m : Int, 0 ≤ m → (2 * m + U) / (2 * U) = if U ≤ 2 * (m % U) then m / U + 1 else m / U := fun m hm => by
    have e := Int.mul_ediv_add_emod m U
    have h0 := Int.emod_nonneg m (b := U) (by omega)
    have h1 := Int.emod_lt_of_pos m hU
    generalize m / U = q at *
    generalize m % U = r at *
    have hx : 2 * m + U = 2 * r + U + 2 * U * q := by
      rw [← e, Int.mul_add, Int.mul_assoc]; omega
    rw [hx, Int.add_mul_ediv_left _ _ (by omega)]
    split
    · rw [show 2 * r + U = 2 * r - U + 2 * U * 1 by omega, Int.add_mul_ediv_left _ _ (by omega), Int.ediv_eq_zero_of_lt (by omega) (by omega)]; omega
    · rw [Int.ediv_eq_zero_of_lt (by omega) (by omega)]; omega
  by_cases h : 0 ≤ n
  · rw [if_pos h, td_pos h, tm_pos h, key n h]
    have h0 := Int.emod_nonneg n (b := U) (by omega)
    repeat' split
    all_goals omega
  · rw [if_neg h, td_neg (by omega), tm_neg (by omega), show -2 * n = 2 * -n by omega, key (-n) (by omega)]
    have h0 := Int.emod_nonneg (-n) (b := U) (by omega)
    repeat' split
    all_goals omega
theorem near_mono {a b U : Int} (hU : 0 < U) (h : a ≤ b) : near a U ≤ near b U := by
  rw [near_eq a hU, near_eq b hU]
  by_cases ha : 0 ≤ a
  · rw [if_pos ha, if_pos (by omega)]
    exact Int.ediv_le_ediv (by omega) (by omega)
  · rw [if_neg ha]
    have h1 : 0 ≤ (-2 * a + U) / (2 * U) := Int.ediv_nonneg (by omega) (by omega)
    by_cases hb : 0 ≤ b
    · rw [if_pos hb]
      have h2 : 0 ≤ (2 * b + U) / (2 * U) := Int.ediv_nonneg (by omega) (by omega)
      omega
    · rw [if_neg hb]
      have : (-2 * b + U) / (2 * U) ≤ (-2 * a + U) / (2 * U) := Int.ediv_le_ediv (by omega) (by omega)
      omega
theorem near_scale (n : Int) {U c : Int} (hU : 0 < U) (hc : 0 < c) : near (n * c) (U * c) = near n U := by
  rw [near_eq _ (Int.mul_pos hU hc), near_eq n hU]
  have e1 : 2 * (n * c) + U * c = (2 * n + U) * c := by rw [Int.add_mul, Int.mul_assoc]
  have e2 : -2 * (n * c) + U * c = (-2 * n + U) * c := by rw [Int.add_mul, Int.mul_assoc]
  have e3 : 2 * (U * c) = 2 * U * c := by rw [Int.mul_assoc]
  rw [e1, e2, e3, Int.mul_ediv_mul_of_pos_left _ _ hc, Int.mul_ediv_mul_of_pos_left _ _ hc]
  by_cases h : 0 ≤ n
  · rw [if_pos h, if_pos (Int.mul_nonneg h (by omega))]
  · have : ¬ 0 ≤ n * c := fun g => h (by
      rcases Int.lt_or_le n 0 with q | q
      · have := Int.mul_neg_of_neg_of_pos q hc; omega
      · exact q)
    rw [if_neg h, if_neg this]
theorem near_one (n : Int) : near n 1 = n := by
  unfold near
  simp
theorem near_whole (n : Int) {c : Int} (hc : 0 < c) : near (n * c) c = n := by
  have := near_scale n (U := 1) (c := c) (by decide) hc
  rw [Int.one_mul] at this
  rw [this, near_one]
/-- What a rounded number is, by its value. -/
theorem rnd_val {n s t : Int} (hs : DOk s) (ht : DOk t) (h : (rndD n s t).2.2 = 0) : rndD n s t = (near (vl n s) (p10 (9 - t)), t, 0) := by
  have hh : DOk s ∧ DOk t := ⟨hs, ht⟩
  unfold rndD at *
  rw [if_pos hh] at *
  by_cases g : s ≤ t
  · rw [if_pos g] at *
    unfold tox at *
    by_cases i : I64 (n * p10 (t - s))
    · rw [if_pos i] at *
      unfold vl
      rw [p10_up ht hs g, ← Int.mul_assoc, near_whole _ (p10_pos _)]
    · rw [if_neg i] at h; cases h
  · rw [if_neg g]
    unfold vl
    rw [p10_up hs ht (by omega), near_scale _ (p10_pos _) (p10_pos _)]
theorem rnd_bad {n s t : Int} (hs : DOk s) (ht : ¬ DOk t) : (rndD n s t).2.2 = 1 := by
  have hh : ¬ (DOk s ∧ DOk t) := fun f => ht f.2
  unfold rndD; rw [if_neg hh]
theorem near_i64 {n s t : Int} (hn : I64 n) (hs : DOk s) (ht : DOk t) : I64 (rndD n s t).1 := by
  have hh : DOk s ∧ DOk t := ⟨hs, ht⟩
  unfold rndD
  rw [if_pos hh]
  by_cases g : s ≤ t
  · rw [if_pos g]
    unfold tox
    by_cases i : I64 (n * p10 (t - s))
    · rw [if_pos i]; exact i
    · rw [if_neg i]; unfold I64; simp only; omega
  · rw [if_neg g]
    obtain ⟨u, e, h5, h9⟩ := p10_even (k := s - t) (by unfold DOk at hs ht; omega)
    obtain ⟨q, r, hq, hr, bq, br⟩ := rnd_mid hn e h5 h9
    show I64 (near n (p10 (s - t)))
    unfold near I64
    rw [← hq]
    repeat' split
    all_goals omega
end Go.Proofs.Ytkongoedgngfhaa.Civ
namespace Go.Proofs.Ytkongoedgngfhaa.Pure
set_option linter.unusedVariables false
set_option linter.unusedSimpArgs false
open Go.RowKit Go.Proofs.Ytkongoedgngfhaa.P Go.Proofs.YtkongoedgngfhaaW.PrintWords Go.Proofs.YtkongoedgngfhaaW.PrintLast Go.Proofs.Ytkongoedgngfhaa.Civ
theorem given_eqO (n s : Int) : computuslaw04_given.f n s = some (n, s) := rfl
theorem order_skip (t n s m r : Int) : Ev (fun k => computuslaw04_DecOrder.j0 k t true n s m r) true := by
  refine Ev.succ ?_
  simp only [computuslaw04_DecOrder.j0, if_true]
  exact known_end
theorem order_end {e f a p b q : Int} (h : e = 0 → f = 0 → I64 a ∧ I64 b ∧ ordD a p b q ≤ 0) : Ev (fun k => computuslaw04_DecOrder.j1 k e f false a p b q) true := by
  refine Ev.succ ?_
  simp only [computuslaw04_DecOrder.j1, Bool.false_eq_true, if_false]
  by_cases h1 : e = 0
  · refine Ev.pos h1 ?_
    by_cases h2 : f = 0
    · obtain ⟨ha, hb, ho⟩ := h h1 h2
      exact Ev.pos h2 (Ev.bind (cmpD_ev ha hb) (Ev.pos ho known_end))
    · exact Ev.neg h2 known_end
  · exact Ev.neg h1 known_end
theorem DecOrder : computuslaw04_DecOrder.Pure := by
  intro n s m r t hn _ hm _ _
  have hn := i64_of_wf hn
  have hm := i64_of_wf hm
  refine Ev.rounds ?_
  unfold computuslaw04_DecOrder.f
  refine Ev.bind0 (rdcright_eq n s) ?_
  by_cases hs : DOk s
  · refine Ev.pos (decide_eq_true hs) (Ev.bind0 (rdcright_eq m r) ?_)
    by_cases hr : DOk r
    · refine Ev.pos (decide_eq_true hr) (Ev.bind0 (given_eqO n s) (Ev.bind0 (given_eqO m r) (Ev.bind (cmpD_ev hn hm) ?_)))
      by_cases ho : ordD n s m r > 0
      · rw [decide_eq_true ho]; exact order_skip t n s m r
      · rw [decide_eq_false ho]
        have hv := (ord_iff (n := n) (m := m) hs hr).1 (by omega)
        refine Ev.succ ?_
        simp only [computuslaw04_DecOrder.j0, Bool.false_eq_true, if_false]
        refine Ev.bind0 (given_eqO n s) (Ev.bind (floor_ev hn) (Ev.bind0 (given_eqO m r) (Ev.bind (floor_ev hm) (Ev.bind0 (given_eqO n s) (Ev.bind (round_ev hn) (Ev.bind0 (given_eqO m r) (Ev.bind (round_ev hm) ?_)))))))
        have f1 : flrD n s = (n / p10 s, 0) := if_pos hs
        have f2 : flrD m r = (m / p10 r, 0) := if_pos hr
        have e1 : n / p10 s = vl n s / 1000000000 := congrArg Prod.fst (vl_spl n hs)
        have e2 : m / p10 r = vl m r / 1000000000 := congrArg Prod.fst (vl_spl m hr)
        rw [f1, f2]
        refine Ev.pos rfl (Ev.pos rfl ?_)
        rw [decide_eq_false (show ¬ ((n / p10 s, (0 : Int)).1 > (m / p10 r, (0 : Int)).1) by simp only; omega)]
        refine order_end fun h1 h2 => ?_
        have ht : DOk t := by
          refine Classical.byContradiction fun g => ?_
          rw [rnd_bad hs g] at h1
          cases h1
        refine ⟨near_i64 hn hs ht, near_i64 hm hr ht, ?_⟩
        rw [rnd_val hs ht h1, rnd_val hr ht h2]
        refine (ord_iff ht ht).2 ?_
        unfold vl at *
        exact Int.mul_le_mul_of_nonneg_right (near_mono (p10_pos _) hv) (by have := p10_pos (9 - t); omega)
    · exact Ev.neg (by rw [decide_eq_false hr]; simp) (order_skip t n s m r)
  · exact Ev.neg (by rw [decide_eq_false hs]; simp) (order_skip t n s m r)
end Go.Proofs.Ytkongoedgngfhaa.Pure
